/- The contracts of limb.Parse, Bytes. -/
import Derived.Test.YtkmlepkmhpigeaaGreatPLR
namespace Go.Eng
open Go Go.Proofs
set_option linter.unusedVariables false
set_option linter.unusedSimpArgs false
noncomputable abbrev gI_LY:Cg:=g_LY 
theorem gok_LY:CfOk prog gI_LY.c:=⟨gam_nil,fun _ _ h => by cases h⟩
theorem lp_idx (i:Nat) (hi:i < 64):IntKind.i64.wrap (((i:Nat):Int).tdiv 8) = ((i / 8:Nat):Int) ∧ IntKind.i64.wrap ((8:Int) * ((i:Nat):Int).tmod 8) = ((8 * (i % 8):Nat):Int):=by
  have h1:((i:Nat):Int).tdiv 8 = ((i / 8:Nat):Int):=by rw [Int.tdiv_eq_ediv_of_nonneg (by omega)]; omega
  have h2:((i:Nat):Int).tmod 8 = ((i % 8:Nat):Int):=by rw [Int.tmod_eq_emod_of_nonneg (by omega)]; omega
  rw [h1,h2]
  exact ⟨wi64 (by omega) (by omega),by rw [wi64 (by omega) (by omega)]; omega⟩
theorem ly_dg (x i:Nat) (hi:i < 64):IntKind.u8.wrap (bShr .u64 ((lim 8 x).getD (0 + i / 8) 0) ((8 * (i % 8):Nat):Int)) = ((dg x i:Nat):Int):=by
  have hr:i % 8 < 8:=Nat.mod_lt _ (by decide)
  have hi':i = 8 * (i / 8) + i % 8:=(Nat.div_add_mod i 8).symm
  rw [dg,hi']
  generalize i / 8 = q at *
  generalize i % 8 = r at *
  rw [show (8 * q + r) / 8 = q by omega,show (8 * q + r) % 8 = r by omega,Nat.zero_add,getD_lim 8 q x (by omega),shr64 _ _ (by omega),wu8n,Nat.pow_add,Nat.pow_mul,Nat.pow_mul,← Nat.div_div_eq_div_mul,show (256:Nat) ^ 8 = 18446744073709551616 from rfl,show (2:Nat) ^ 8 = 256 from rfl]
  generalize x / 18446744073709551616 ^ q = w
  have e:(18446744073709551616:Nat) = 256 ^ r * (256 * 256 ^ (7 - r)):=by
    have h8:256 ^ r * (256 * 256 ^ (7 - r)) = 256 ^ 8:=by
      rw [← Nat.mul_assoc,← Nat.pow_succ,← Nat.pow_add,show r + 1 + (7 - r) = 8 by omega]
    rw [h8]
  rw [e,Nat.mod_mul_right_div_self,Nat.mod_mul_right_mod]
theorem ly_loop (x:Nat) (fu:Nat):∀ (d n i:Nat),i + d = 64→d < n →
    lpA prog gI_LY fu LY_b1 (LY_k1 fu) n (some (LY_s1 64 64 (i:Int) (lim 8 x) 64 (lo i x ++ List.replicate (64 - i) 0))) = some (.str (strN 64 x)):=by
  intro d
  induction d with
  | zero =>
    intro n i hi hn
    obtain ⟨n,rfl⟩:=Nat.exists_eq_succ_of_ne_zero (by omega:n ≠ 0)
    have e:i = 64:=by omega
    subst e
    rw [lpA_succ,LY_r1,decide_eq_false (by omega),cond_false,kOut_some,LY_c1e0,Nat.sub_self,List.replicate_zero,List.append_nil]; rfl
  | succ d ih =>
    intro n i hi hn
    obtain ⟨n,rfl⟩:=Nat.exists_eq_succ_of_ne_zero (by omega:n ≠ 0)
    obtain ⟨i1,i2⟩:=lp_idx i (by omega)
    have:=ih n (i + 1) (by omega) (by omega)
    rw [lpA_succ,LY_r1,decide_eq_true (by omega),cond_true,i1,i2,decide_eq_true (by omega),cond_true,decide_eq_false (by omega),cond_false,decide_eq_true (by omega),cond_true,Int.toNat_natCast,Int.toNat_natCast,wi64 (by omega) (by omega),ly_dg x i (by omega),lo_set_step x 64 i (by omega)]
    exact this
theorem ok_Bytes:CallOk prog n_limb_Wide_Bytes sBytes:=by
  refine afunc_okE (g:=gI_LY) (fu:=fun _ => 65) mixed gok_LY h_limb_Wide_Bytes (by kernel_rfl) ?_
  intro args t ht
  obtain ⟨a,rfl,ha,rfl⟩:=run1_ok (F:=fun a => strN 64 (val a)) ht
  refine (LY_ev ..).trans ?_
  have:=ly_loop (val a) 65 64 65 0 (by omega) (by decide)
  rw [lim8_val ha] at this
  exact this
theorem run_Bytes {a:List Int} (ha:ok8 a = true):rBytes [W8 a] = some (strN 64 (val a)):=run1_some (fun a => strN 64 (val a)) ha
end Go.Eng
