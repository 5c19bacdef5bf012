/- Texts of this claim, one behind the other: PFe3, GFe2, PFe4, PFe5. -/
import Derived.KernelRfl
import Derived.Test.YtkmlepkmhpigeaaGreatEngNums
import Derived.Test.YtkmlepkmhpigeaaGreatPLT2
import Derived.Test.YtkmlepkmhpigeaaGreatZF1
import Derived.Test.YtkmlepkmhpigeaaGreatZR2
/- field: of great numbers, of digits, of bytes; its bytes. -/
namespace Go.Eng
open Go Go.Proofs
set_option linter.unusedVariables false
set_option linter.unusedSimpArgs false
set_option maxRecDepth 4000
noncomputable abbrev gI_FWi:Cg:=g_FWi (Int) rOf (fun t => [t,0,0,0,0,0,0,0]) (Nat) rShift (fun t => lim 8 t) (Nat × Bool) rSub (fun t => lim 8 t.fst) (fun t => t.snd) (Nat × Nat × Int) rDiv (fun t => lim 8 t.fst) (fun t => lim 8 t.snd.fst) (fun t => t.snd.snd)
theorem gok_FWi:CfOk prog gI_FWi.c:=⟨gam_cons ok_Of <| gam_cons ok_Shift <| gam_cons ok_Sub <| gam_cons ok_Div <| gam_nil,fun _ _ h => by cases h⟩
theorem lim8_hd (n:Nat):(lim 8 n).getD 0 0 = ((n % 18446744073709551616:Nat):Int):=by
  have:=getD_lim 8 0 n (by omega)
  rwa [Nat.pow_zero,Nat.div_one] at this
theorem mskL (n:Nat):bAnd .u64 ((lim 8 n).getD 0 0) 2251799813685247 = ((n % 2251799813685248:Nat):Int):=by
  rw [lim8_hd,msk _ (Nat.mod_lt _ (by decide))]
  congr 1
  omega
theorem shN {r k:Nat} (h:k < 512) (hk:0 < k):shiftN r (-(k:Int)) = r / 2 ^ k:=by
  unfold shiftN
  rw [decide_eq_false (by omega),decide_eq_false (by omega),Bool.false_or,cond_false,decide_eq_true (by omega),cond_true,Int.neg_neg,Int.toNat_natCast]
theorem ok_Wide:CallOk prog n_field_wide sWide:=by
  refine afunc_okE (g:=gI_FWi) (fu:=fun _ => 6) mixed gok_FWi h_field_wide (by kernel_rfl) ?_
  intro args t ht
  obtain ⟨a,rfl,ha,rfl⟩:=run1_ok (F:=fun a => fe (val a % P25)) ht
  refine (FWi_ev ..).trans ?_
  have s1:rShift [AV.agg (TRow.ints IntKind.u64 [1,0,0,0,0,0,0,0]) 8,AV.int IntKind.i64 255] = some 57896044618658097711785492504343953926634992332820282019728792003956564819968:=(run_Shift (b:=[1,0,0,0,0,0,0,0]) (by decide) 255).trans (by decide +kernel)
  have s2:rSub [AV.agg (TRow.ints IntKind.u64 (lim 8 57896044618658097711785492504343953926634992332820282019728792003956564819968)) 8,AV.agg (TRow.ints IntKind.u64 [19,0,0,0,0,0,0,0]) 8] = some (M512 + P25,true) :=
    (run_Sub (ok8_lim _) (b:=[19,0,0,0,0,0,0,0]) (by decide)).trans (by decide +kernel)
  have s3:rDiv [AV.agg (TRow.ints IntKind.u64 a) 8,AV.agg (TRow.ints IntKind.u64 (lim 8 (M512 + P25))) 8] = some (val a / P25,val a % P25,0):=by
    refine (run_Div ha (ok8_lim _)).trans ?_
    have:val (lim 8 (M512 + P25)) = P25:=by decide +kernel
    rw [divW,this,if_neg (by decide)]
  have o1:rOf [AV.int IntKind.u64 1] = some 1:=rfl
  have o2:rOf [AV.int IntKind.u64 19] = some 19:=rfl
  rw [o1,Option.bind_some,s1,Option.bind_some,o2,Option.bind_some,s2,Option.bind_some,s3,Option.bind_some]
  show lpA prog gI_FWi 6 FWi_b1 _ 6 (some _) = _
  dsimp only
  have hr:val a % P25 < P25:=modP_lt _
  generalize val a % P25 = r at *
  have hv:val (lim 8 r) = r:=by
    rw [val_lim8]; exact Nat.mod_eq_of_lt (Nat.lt_trans hr (by decide))
  have h:∀ k:Nat,0 < k→k < 512→rShift [AV.agg (TRow.ints IntKind.u64 (lim 8 r)) 8,AV.int IntKind.i64 (-(k:Int))] = some (r / 2 ^ k):=fun k h0 h1 => by
    refine (run_Shift (ok8_lim r) _).trans ?_
    rw [hv,shN h1 h0]
  have h0:rShift [AV.agg (TRow.ints IntKind.u64 (lim 8 r)) 8,AV.int IntKind.i64 0] = some r:=by
    refine (run_Shift (ok8_lim r) _).trans ?_
    rw [hv]; simp [shiftN]
  have t1:rShift [AV.agg (TRow.ints IntKind.u64 (lim 8 r)) 8,AV.int IntKind.i64 (-51)] = some (r / 2251799813685248):=h 51 (by omega) (by omega)
  have t2:rShift [AV.agg (TRow.ints IntKind.u64 (lim 8 r)) 8,AV.int IntKind.i64 (-102)] = some (r / 5070602400912917605986812821504):=h 102 (by omega) (by omega)
  have t3:rShift [AV.agg (TRow.ints IntKind.u64 (lim 8 r)) 8,AV.int IntKind.i64 (-153)] = some (r / 11417981541647679048466287755595961091061972992):=h 153 (by omega) (by omega)
  have t4:rShift [AV.agg (TRow.ints IntKind.u64 (lim 8 r)) 8,AV.int IntKind.i64 (-204)] = some (r / 25711008708143844408671393477458601640355247900524685364822016):=h 204 (by omega) (by omega)
  rw [lpA_succ,FWi_m0,h0,Option.bind_some,mskL,lpA_succ,FWi_m1,t1,Option.bind_some,mskL,lpA_succ,FWi_m2,t2,Option.bind_some,mskL,lpA_succ,FWi_m3,t3,Option.bind_some,mskL,lpA_succ,FWi_m4,t4,Option.bind_some,mskL,lpA_succ,FWi_m5,kOut_some,FWi_c1e0]
  rfl
theorem run_Wide {a:List Int} (h:ok8 a = true):rWide [W8 a] = some (fe (val a % P25)):=by
  simp only [rWide,sWide]
  exact run1_some (fun a => fe (val a % P25)) h
noncomputable abbrev gI_FDe:Cg:=g_FDe (Nat × Int) rDecimal (fun t => lim 8 t.fst) (fun t => t.snd) (Fe) rWide (fun t => ↑t.a) (fun t => ↑t.b) (fun t => ↑t.c) (fun t => ↑t.d) (fun t => ↑t.e)
theorem gok_FDe:CfOk prog gI_FDe.c:=⟨gam_cons ok_Decimal <| gam_cons ok_Wide <| gam_nil,fun _ _ h => by cases h⟩
theorem decE_lt (s:Str):(decE s).1 < M512:=by
  unfold decE
  cases decOk s
  · exact M512_pos
  · rw [cond_true]
    cases h:Nat.blt (decV 0 s) M512
    · exact M512_pos
    · exact Nat.blt_eq.mp h
theorem ok_FDec:CallOk prog n_field_Decimal sFDec:=by
  refine afunc_okE (g:=gI_FDe) (fu:=fun _ => 0) mixed gok_FDe h_field_Decimal (by kernel_rfl) ?_
  intro args t ht
  unfold sFDec at ht
  simp only at ht
  split at ht
  · rename_i s
    obtain ⟨h1,h2⟩:=ctrueS ht
    subst h2
    refine (FDe_ev ..).trans ?_
    have c:=run_Wide (ok8_lim (decE s).1)
    rw [val_lim8,Nat.mod_eq_of_lt (decE_lt s),W8] at c
    rw [run_Decimal (of_decide_eq_true h1),Option.bind_some]
    show (rWide [AV.agg (TRow.ints IntKind.u64 (lim 8 (decE s).1)) 8]).bind _ = _
    rw [c]; rfl
  · cases ht
theorem run_FDec {s:Str} (h:s.length ≤ 1099511627776):rFDec [.str s] = some (fe ((decE s).1 % P25)):=by
  simp only [rFDec,sFDec]
  rw [decide_eq_true h]; rfl
theorem ok32_ok {a:List Int} (h:ok32 a = true):a.length = 32 ∧ okB a = true:=by
  simp only [ok32,Bool.and_eq_true] at h
  exact ⟨Nat.eq_of_beq_eq_true h.1,h.2⟩
theorem runB1_ok {T:Type} {F:List Int→T} {args:List AV} {t:T} (h:runB1 F args = some t):∃ a,args = [eB32 a] ∧ ok32 a = true ∧ t = F a:=by
  unfold runB1 at h
  split at h
  · obtain ⟨h1,h2⟩:=ctrueS h
    exact ⟨_,rfl,h1,h2.symm⟩
  · cases h
theorem run_B1 {T:Type} (F:List Int→T) {a:List Int} (h:ok32 a = true):runB1 F [eB32 a] = some (F a):=by
  simp only [runB1,eB32]
  rw [h]; rfl
theorem and127:∀ n:Fin 256,bAnd IntKind.u8 (n.1:Int) 127 = ((n.1 % 128:Nat):Int):=by decide +kernel
theorem low255 {a:List Int} (h:ok32 a = true):okB (a.set 31 (bAnd .u8 (a.getD 31 0) 127)) = true ∧ vB (a.set 31 (bAnd .u8 (a.getD 31 0) 127)) = vB a % T255:=by
  obtain ⟨hl,hb⟩:=ok32_ok h
  obtain ⟨g0,g1⟩:=okB_getD hb 31
  obtain ⟨n,hn⟩:=Int.eq_ofNat_of_zero_le g0
  have hn':n < 256:=by omega
  rw [hn,show bAnd .u8 (n:Int) 127 = ((n % 128:Nat):Int) from and127 ⟨n,hn'⟩]
  refine ⟨okB_set a 31 (n % 128) hb (by omega),?_⟩
  have h1:=vB_set a 31 (n % 128) (by omega) hb
  rw [hn,Int.toNat_natCast] at h1
  have h2:=vB_lt a hb
  rw [hl] at h2
  have h3:n = vB a / 256 ^ 31:=by
    have e:=getD_lo 32 (vB a) 31 (by omega)
    rw [← hl,lo_vB a hb,hn] at e
    have:=Int.ofNat.inj e
    rw [this]
    exact Nat.mod_eq_of_lt (by simp only [Nat.reducePow] at h2 ⊢; omega)
  simp only [Nat.reducePow,T255] at *
  omega
noncomputable abbrev gI_FLo:Cg:=g_FLo (Nat × Int) rParse (fun t => lim 8 t.fst) (fun t => t.snd) (Fe) rWide (fun t => ↑t.a) (fun t => ↑t.b) (fun t => ↑t.c) (fun t => ↑t.d) (fun t => ↑t.e)
theorem gok_FLo:CfOk prog gI_FLo.c:=⟨gam_cons ok_Parse <| gam_cons ok_Wide <| gam_nil,fun _ _ h => by cases h⟩
theorem ok_Loose:CallOk prog n_field_Loose sLoose:=by
  refine afunc_okE (g:=gI_FLo) (fu:=fun _ => 0) mixed gok_FLo h_field_Loose (by kernel_rfl) ?_
  intro args t ht
  obtain ⟨a,rfl,ha,rfl⟩:=runB1_ok (F:=looF) ht
  obtain ⟨hl,hb⟩:=ok32_ok ha
  obtain ⟨k1,k2⟩:=low255 ha
  refine (FLo_ev ..).trans ?_
  have hlen:(a.set 31 (bAnd .u8 (a.getD 31 0) 127)).length = 32:=by rw [List.length_set,hl]
  rw [List.drop_zero,List.take_of_length_le (by omega),run_Parse (by rw [List.length_map,hlen]; omega),Option.bind_some,List.length_map,hlen,show Nat.blt 64 32 = false from rfl,cond_false,vS_b8 k1,k2]
  have c:=run_Wide (ok8_lim (vB a % T255))
  rw [val_lim8,Nat.mod_eq_of_lt (a:=vB a % T255) (b:=M512) (Nat.lt_trans (Nat.mod_lt _ (by decide)) (by decide)),W8] at c
  show (rWide [AV.agg (TRow.ints IntKind.u64 (lim 8 (vB a % T255))) 8]).bind _ = _
  rw [c]; rfl
theorem run_Loose {a:List Int} (h:ok32 a = true):rLoose [eB32 a] = some (looF a):=by
  simp only [rLoose,sLoose]
  exact run_B1 looF h
noncomputable abbrev gI_FBy:Cg:=g_FBy (Fe) rFWhole (fun t => ↑t.a) (fun t => ↑t.b) (fun t => ↑t.c) (fun t => ↑t.d) (fun t => ↑t.e)
theorem gok_FBy:CfOk prog gI_FBy.c:=⟨gam_cons ok_FWhole <| gam_nil,fun _ _ h => by cases h⟩
theorem orB8 (x y:Nat) (hx:x < 256) (hy:y < 256):bOr .u8 (x:Int) (y:Int) = ((x ||| y:Nat):Int):=by
  unfold bOr
  have e:(BitVec.ofInt (IntKind.bits .u8) (x:Int) ||| BitVec.ofInt (IntKind.bits .u8) (y:Int)).toNat = x ||| y:=by
    show (BitVec.ofInt 8 (x:Int) ||| BitVec.ofInt 8 (y:Int)).toNat = x ||| y
    rw [BitVec.toNat_or,BitVec.ofInt_natCast,BitVec.ofInt_natCast,BitVec.toNat_ofNat,BitVec.toNat_ofNat,Nat.mod_eq_of_lt (by omega),Nat.mod_eq_of_lt (by omega)]
  rw [e,wu8n,Nat.mod_eq_of_lt]
  exact Nat.or_lt_two_pow (n:=8) hx hy
theorem shlB:∀ (b:Fin 2) (r:Fin 8),bShl .u8 (IntKind.u8.wrap (b.1:Int)) (r.1:Int) = ((b.1 * 2 ^ r.1:Nat):Int):=by decide +kernel
theorem p256 (q:Nat):256 ^ q = 2 ^ (8 * q):=by rw [show 256 = 2 ^ 8 from rfl,← Nat.pow_mul]
theorem or_bit (x b r:Nat) (hx:x < 2 ^ r) (hb:b < 2):x ||| b * 2 ^ r = x + b * 2 ^ r:=by
  rcases (by omega:b = 0 ∨ b = 1) with rfl | rfl
  · simp
  · rw [Nat.one_mul]; exact or_pow x r hx
theorem lo_inj {a b:List Int} (ha:okB a = true) (hb:okB b = true) (hl:a.length = b.length) (h:vB a = vB b):a = b:=by
  rw [← lo_vB a ha,← lo_vB b hb,hl,h]
theorem by_step (n t:Nat) (ht:t < 255):(lo 32 (n % 2 ^ t)).set (t / 8) (bOr .u8 ((lo 32 (n % 2 ^ t)).getD (t / 8) 0) (bShl .u8 (IntKind.u8.wrap ((n / 2 ^ t % 2:Nat):Int)) ((t % 8:Nat):Int))) = lo 32 (n % 2 ^ (t + 1)):=by
  have hb:n / 2 ^ t % 2 < 2:=Nat.mod_lt _ (by decide)
  generalize hbit:n / 2 ^ t % 2 = b at *
  have e1:n % 2 ^ (t + 1) = n % 2 ^ t + b * 2 ^ t:=by
    rw [Nat.pow_succ,Nat.mod_mul,hbit,Nat.mul_comm]
  have hm:n % 2 ^ t < 2 ^ t:=Nat.mod_lt _ (Nat.two_pow_pos t)
  rw [e1]
  generalize n % 2 ^ t = m at *
  have hs:2 ^ t = 2 ^ (8 * (t / 8)) * 2 ^ (t % 8):=by rw [← Nat.pow_add]; congr 1; omega
  have hq:m / 256 ^ (t / 8) < 2 ^ (t % 8):=by
    rw [p256,Nat.div_lt_iff_lt_mul (Nat.two_pow_pos _),Nat.mul_comm,← hs]; exact hm
  have h8:2 ^ (t % 8) ≤ 128:=Nat.pow_le_pow_right (n:=2) (by omega) (by omega:t % 8 ≤ 7)
  have hbr:b * 2 ^ (t % 8) ≤ 128:=by
    rcases (by omega:b = 0 ∨ b = 1) with rfl | rfl <;> omega
  have e0:bShl .u8 (IntKind.u8.wrap (b:Int)) ((t % 8:Nat):Int) = ((b * 2 ^ (t % 8):Nat):Int):=shlB ⟨b,hb⟩ ⟨t % 8,by omega⟩
  rw [getD_lo 32 m (t / 8) (by omega),Nat.mod_eq_of_lt (a:=m / 256 ^ (t / 8)) (by omega),e0,orB8 _ _ (by omega) (by omega),or_bit _ _ _ hq hb]
  have pm:2 ^ t < 2 ^ 255:=Nat.pow_lt_pow_right (by decide) ht
  have hbt:b * 2 ^ t ≤ 2 ^ t:=by
    rcases (by omega:b = 0 ∨ b = 1) with rfl | rfl <;> omega
  refine lo_inj (okB_set _ _ _ (okB_lo ..) (by omega)) (okB_lo ..) (by rw [List.length_set,length_lo,length_lo]) ?_
  have h1:=vB_set (lo 32 m) (t / 8) (m / 256 ^ (t / 8) + b * 2 ^ (t % 8)) (by rw [length_lo]; omega) (okB_lo ..)
  rw [getD_lo 32 m (t / 8) (by omega),Int.toNat_natCast,Nat.mod_eq_of_lt (a:=m / 256 ^ (t / 8)) (by omega),vB_lo,Nat.mod_eq_of_lt (a:=m) (by simp only [Nat.reducePow] at pm ⊢; omega),Nat.mul_add] at h1
  rw [vB_lo,Nat.mod_eq_of_lt (a:=m + b * 2 ^ t) (by simp only [Nat.reducePow] at pm ⊢; omega)]
  have e2:256 ^ (t / 8) * (b * 2 ^ (t % 8)) = b * 2 ^ t:=by
    rw [hs,p256,Nat.mul_left_comm]
  rw [e2] at h1
  omega
theorem bit_at (n i k:Nat) (hk:k < 51):bAnd .u64 (bShr .u64 ((n / 2 ^ (51 * i) % 2251799813685248:Nat):Int) (k:Int)) 1 = ((n / 2 ^ (51 * i + k) % 2:Nat):Int):=by
  rw [shr64 _ k (by omega),and1 _ (Nat.lt_of_le_of_lt (Nat.div_le_self ..) (Nat.lt_trans (Nat.mod_lt _ (by decide)) (by decide)))]
  congr 1
  rw [show (2251799813685248:Nat) = 2 ^ k * 2 ^ (51 - k) by rw [← Nat.pow_add,show k + (51 - k) = 51 by omega],Nat.mod_mul_right_div_self,Nat.div_div_eq_div_mul,← Nat.pow_add]
  exact Nat.mod_mod_of_dvd _ (Nat.dvd_trans (by decide:2 ∣ 2 ^ 1) (Nat.pow_dvd_pow 2 (by omega)))
theorem by_in {β:Type} (n:Nat) (xs zs:List Int) (fu:Nat) (G:Option St→Option β) (H:Ex→Option St→Option β) (i:Nat) (hi:i < 5):∀ (d m k:Nat),k + d = 51→d < m →
    lpA prog gI_FBy fu FBy_b2 (FBy_k2 _ rFWhole (fun t => (t.a:Int)) (fun t => (t.b:Int)) (fun t => (t.c:Int)) (fun t => (t.d:Int)) (fun t => (t.e:Int)) fu G H) m
      (some (FBy_s2 (i:Int) ((n / 2 ^ (51 * i) % 2251799813685248:Nat):Int) xs (i:Int) (k:Int) zs (lo 32 (n % 2 ^ (51 * i + k))))) = G (some (FBy_s1 xs ((i + 1:Nat):Int) zs (lo 32 (n % 2 ^ (51 * (i + 1)))))):=by
  intro d
  induction d with
  | zero =>
    intro m k hk hm
    obtain ⟨m,rfl⟩:=Nat.exists_eq_succ_of_ne_zero (by omega:m ≠ 0)
    have e:k = 51:=by omega
    subst e
    rw [lpA_succ,FBy_r2,decide_eq_false (by omega),cond_false,kOut_some,FBy_c2e2,wi64 (by omega) (by omega)]
    rfl
  | succ d ih =>
    intro m k hk hm
    obtain ⟨m,rfl⟩:=Nat.exists_eq_succ_of_ne_zero (by omega:m ≠ 0)
    have h:=ih m (k + 1) (by omega) (by omega)
    have e1:IntKind.i64.wrap (IntKind.i64.wrap (51 * (i:Int)) + (k:Int)) = ((51 * i + k:Nat):Int):=by
      rw [wi64 (n:=51 * (i:Int)) (by omega) (by omega),wi64 (by omega) (by omega)]; omega
    have e2:IntKind.i64.wrap ((((51 * i + k:Nat):Int)).tdiv 8) = (((51 * i + k) / 8:Nat):Int):=by
      rw [Int.tdiv_eq_ediv_of_nonneg (by omega),wi64 (by omega) (by omega)]; omega
    have e3:(((51 * i + k:Nat):Int)).tmod 8 = (((51 * i + k) % 8:Nat):Int):=by
      rw [Int.tmod_eq_emod_of_nonneg (by omega)]; omega
    rw [lpA_succ,FBy_r2,decide_eq_true (by omega),cond_true,e1,e2,e3,decide_eq_true (by omega),cond_true,decide_eq_false (by omega),cond_false,decide_eq_false (by omega),cond_false,cond_true,Int.toNat_natCast,Nat.zero_add,bit_at n i k (by omega),by_step n (51 * i + k) (by omega),wi64 (by omega) (by omega)]
    exact h
theorem by_out (n:Nat) (zs:List Int) (fu:Nat) (hfu:51 < fu):∀ (d m i:Nat),i + d = 5→d < m →
    lpA prog gI_FBy fu FBy_b1 (FBy_k1 _ rFWhole (fun t => (t.a:Int)) (fun t => (t.b:Int)) (fun t => (t.c:Int)) (fun t => (t.d:Int)) (fun t => (t.e:Int)) fu) m
      (some (FBy_s1 [((fe n).a:Int),(fe n).b,(fe n).c,(fe n).d,(fe n).e] (i:Int) zs (lo 32 (n % 2 ^ (51 * i))))) = some (eB32 (lo 32 (n % 2 ^ 255))):=by
  intro d
  induction d with
  | zero =>
    intro m i hi hm
    obtain ⟨m,rfl⟩:=Nat.exists_eq_succ_of_ne_zero (by omega:m ≠ 0)
    have e:i = 5:=by omega
    subst e
    rw [lpA_succ,FBy_r1,decide_eq_false (by omega),cond_false,kOut_some,FBy_c1e0]; rfl
  | succ d ih =>
    intro m i hi hm
    obtain ⟨m,rfl⟩:=Nat.exists_eq_succ_of_ne_zero (by omega:m ≠ 0)
    have h:=ih m (i + 1) (by omega) (by omega)
    rw [lpA_succ,FBy_r1,decide_eq_true (by omega),cond_true,decide_eq_true (by omega),cond_true,Int.toNat_natCast]
    have g:=by_in n [((fe n).a:Int),(fe n).b,(fe n).c,(fe n).d,(fe n).e] zs fu (lpA prog gI_FBy fu FBy_b1 (FBy_k1 _ rFWhole (fun t => (t.a:Int)) (fun t => (t.b:Int)) (fun t => (t.c:Int)) (fun t => (t.d:Int)) (fun t => (t.e:Int)) fu) m)
      (kOut (FBy_k1 _ rFWhole (fun t => (t.a:Int)) (fun t => (t.b:Int)) (fun t => (t.c:Int)) (fun t => (t.d:Int)) (fun t => (t.e:Int)) fu)) i (by omega) 51 fu 0 (by omega) hfu
    rw [Nat.add_zero] at g
    have hg:([((fe n).a:Int),(fe n).b,(fe n).c,(fe n).d,(fe n).e]:List Int).getD i 0 = ((n / 2 ^ (51 * i) % 2251799813685248:Nat):Int):=by
      have hi5:i < 5:=by omega
      clear hi h g ih
      match i,hi5 with
      | n + 5,h => exact absurd h (by omega)
      | 0,_ => simp [fe]
      | 1,_ => rfl
      | 2,_ => rfl
      | 3,_ => rfl
      | 4,_ => rfl
    rw [hg]
    exact g.trans h
theorem ok_FBytes:CallOk prog n_field_Element_Bytes sFBytes:=by
  refine afunc_okE (g:=gI_FBy) (fu:=fun _ => 60) mixed gok_FBy h_field_Element_Bytes (by kernel_rfl) ?_
  intro args t ht
  obtain ⟨x,rfl,hx,rfl⟩:=runF1_ok (F:=fun x => lo 32 (fv x % P25)) ht
  have c:=run_FWhole hx
  simp only [eF] at c
  refine (FBy_ev ..).trans ?_
  rw [c,Option.bind_some]
  have h:=by_out (fv x % P25) (List.replicate 32 0) 60 (by omega) 5 60 0 (by omega) (by omega)
  rw [Nat.mod_eq_of_lt (a:=fv x % P25) (b:=2 ^ 255) (Nat.lt_trans (modP_lt _) (by decide +kernel)),Nat.mul_zero,Nat.pow_zero,Nat.mod_one] at h
  exact h
theorem run_FBytes {x:Fe} (h:fOk x):rFBytes [eF x] = some (lo 32 (fv x % P25)):=by
  simp only [rFBytes,sFBytes]
  exact run_F1 (fun x => lo 32 (fv x % P25)) h
end Go.Eng
/- GENERATED by gen.py: what the evaluator comes to at these functions. -/
namespace Go.Eng
open Go Go.Proofs
set_option linter.unusedVariables false
set_option linter.unusedSimpArgs false
noncomputable def g_FMd (T0:Type) (R0:List AV→Option T0) (f0a:T0→List Int) (f0b:T0→Nat) (f0c:T0→Bool):Cg:=⟨⟨gam [(n_opalineref01_Decimal,⟨R0,fun t => AV.tup [CV.s (SV.dat (TRow.ints IntKind.i64 (f0a t)) (f0b t) 1),CV.s (SV.pl (Pl.bool (f0c t)))]⟩)],[],noE⟩,[]⟩
section
variable (T0:Type) (R0:List AV→Option T0) (f0a:T0→List Int) (f0b:T0→Nat) (f0c:T0→Bool)
theorem FMd_ev (fu:Nat) (s:Str):afunc prog f_opalineref01_Mod (g_FMd T0 R0 f0a f0b f0c) fu [AV.str s] = (R0 [AV.str s]).bind fun (t:T0) => some (AV.s (SV.dat (TRow.ints IntKind.i64 (f0a t)) (f0b t) (1:Nat))):=by kernel_rfl
end
noncomputable def g_FRP (T0:Type) (R0:List AV→Option T0) (f0a:T0→List Int) (f0b:T0→Nat):Cg:=⟨⟨gam [(n_opalineref01_Mod,⟨R0,fun t => AV.s (SV.dat (TRow.ints IntKind.i64 (f0a t)) (f0b t) 1)⟩)],[],noE⟩,[]⟩
section
variable (T0:Type) (R0:List AV→Option T0) (f0a:T0→List Int) (f0b:T0→Nat)
theorem FRP_ev (fu:Nat):afunc prog f_opalineref05_P (g_FRP T0 R0 f0a f0b) fu [] = (R0 [AV.str ([(53:UInt8),(55:UInt8),(56:UInt8),(57:UInt8),(54:UInt8),(48:UInt8),(52:UInt8),(52:UInt8),(54:UInt8),(49:UInt8),(56:UInt8),(54:UInt8),(53:UInt8),(56:UInt8),(48:UInt8),(57:UInt8),(55:UInt8),(55:UInt8),(49:UInt8),(49:UInt8),(55:UInt8),(56:UInt8),(53:UInt8),(52:UInt8),(57:UInt8),(50:UInt8),(53:UInt8),(48:UInt8),(52:UInt8),(51:UInt8),(52:UInt8),(51:UInt8),(57:UInt8),(53:UInt8),(51:UInt8),(57:UInt8),(50:UInt8),(54:UInt8)].append [(54:UInt8),(51:UInt8),(52:UInt8),(57:UInt8),(57:UInt8),(50:UInt8),(51:UInt8),(51:UInt8),(50:UInt8),(56:UInt8),(50:UInt8),(48:UInt8),(50:UInt8),(56:UInt8),(50:UInt8),(48:UInt8),(49:UInt8),(57:UInt8),(55:UInt8),(50:UInt8),(56:UInt8),(55:UInt8),(57:UInt8),(50:UInt8),(48:UInt8),(48:UInt8),(51:UInt8),(57:UInt8),(53:UInt8),(54:UInt8),(53:UInt8),(54:UInt8),(52:UInt8),(56:UInt8),(49:UInt8),(57:UInt8),(57:UInt8),(52:UInt8),(57:UInt8)])]).bind fun (t:T0) => some (AV.s (SV.dat (TRow.ints IntKind.i64 (f0a t)) (f0b t) (1:Nat))):=by kernel_rfl
end
noncomputable def g_FRd (T0:Type) (R0:List AV→Option T0) (f0a:T0→List Int) (f0b:T0→Nat) (T1:Type) (R1:List AV→Option T1) (f1a:T1→List Int) (f1b:T1→Nat) (T2:Type) (R2:List AV→Option T2) (f2a:T2→List Int) (f2b:T2→Nat) (T3:Type) (R3:List AV→Option T3) (f3a:T3→Int) (T4:Type) (R4:List AV→Option T4) (f4a:T4→List Int) (f4b:T4→Nat):Cg:=⟨⟨gam [(n_opalineref01_Mul,⟨R0,fun t => AV.s (SV.dat (TRow.ints IntKind.i64 (f0a t)) (f0b t) 1)⟩),(n_opalineref01_Add,⟨R1,fun t => AV.s (SV.dat (TRow.ints IntKind.i64 (f1a t)) (f1b t) 1)⟩),(n_opalineref05_P,⟨R2,fun t => AV.s (SV.dat (TRow.ints IntKind.i64 (f2a t)) (f2b t) 1)⟩),(n_opalineref01_Cmp,⟨R3,fun t => AV.int IntKind.i64 (f3a t)⟩),(n_opalineref01_Sub,⟨R4,fun t => AV.s (SV.dat (TRow.ints IntKind.i64 (f4a t)) (f4b t) 1)⟩)],[],noE⟩,[(2,[0],[0]),(5,[0,3],[0,3]),(9,[0,4],[0])]⟩
section
variable (T0:Type) (R0:List AV→Option T0) (f0a:T0→List Int) (f0b:T0→Nat) (T1:Type) (R1:List AV→Option T1) (f1a:T1→List Int) (f1b:T1→Nat) (T2:Type) (R2:List AV→Option T2) (f2a:T2→List Int) (f2b:T2→Nat) (T3:Type) (R3:List AV→Option T3) (f3a:T3→Int) (T4:Type) (R4:List AV→Option T4) (f4a:T4→List Int) (f4b:T4→Nat)
noncomputable def FRd_s1 (x0:List Int) (n0:Nat):St:={ tm:=[((0:Nat),AV.s (SV.dat (TRow.ints IntKind.i64 x0) n0 (1:Nat)))],hp:=[],nx:=(0:Nat),sz:=(41:Nat) }
noncomputable def FRd_b1:Code:=bodyL (codeAt [1,0,2] (codeF f_opalineref05_Red))
noncomputable def FRd_k1 (fu:Nat):=kAt prog (g_FRd T0 R0 f0a f0b T1 R1 f1a f1b T2 R2 f2a f2b T3 R3 f3a T4 R4 f4a f4b) fu [1,0,2] (codeF f_opalineref05_Red) (kFin prog f_opalineref05_Red)
noncomputable abbrev FRd_L1 (fu:Nat) (x0:List Int) (n0:Nat):=lpA prog (g_FRd T0 R0 f0a f0b T1 R1 f1a f1b T2 R2 f2a f2b T3 R3 f3a T4 R4 f4a f4b) fu FRd_b1 (FRd_k1 T0 R0 f0a f0b T1 R1 f1a f1b T2 R2 f2a f2b T3 R3 f3a T4 R4 f4a f4b fu ) fu (some (FRd_s1 x0 n0))
theorem FRd_ev (fu:Nat) (x:Nat):afunc prog f_opalineref05_Red (g_FRd T0 R0 f0a f0b T1 R1 f1a f1b T2 R2 f2a f2b T3 R3 f3a T4 R4 f4a f4b) fu [eN x] = FRd_L1 T0 R0 f0a f0b T1 R1 f1a f1b T2 R2 f2a f2b T3 R3 f3a T4 R4 f4a f4b fu (nb x) (nb x).length:=by kernel_rfl
noncomputable def FRd_o1e0 (x0:List Int) (n0:Nat):St:={ tm:=[((0:Nat),AV.s (SV.dat (TRow.ints IntKind.i64 x0) n0 (1:Nat)))],hp:=[],nx:=(0:Nat),sz:=(41:Nat) }
theorem FRd_r1 {β:Type} (fu:Nat) (G:Option St→Option β) (H:Ex→Option St→Option β) (x0:List Int) (n0:Nat):lpR prog (g_FRd T0 R0 f0a f0b T1 R1 f1a f1b T2 R2 f2a f2b T3 R3 f3a T4 R4 f4a f4b) fu FRd_b1 G H (FRd_s1 x0 n0) = bif decide ((32:Int) < (↑n0:Int)) then bif decide ((0:Int) ≤ (0:Int) ∧ (0:Int) ≤ (32:Int) ∧ (32:Int) ≤ (32:Int) ∧ (32:Int) ≤ (↑n0:Int)) then bif decide ((0:Int) ≤ (32:Int) ∧ (32:Int) ≤ (↑n0:Int) ∧ (↑n0:Int) ≤ (↑n0:Int)) then (R0 [AV.s (SV.dat (TRow.ints IntKind.i64 (List.take (((↑n0:Int) - (32:Int)).toNat * (1:Nat)) (List.drop (32:Nat) x0))) ((↑n0:Int) - (32:Int)).toNat (1:Nat)),AV.s (SV.dat (TRow.ints IntKind.i64 [(38:Int)]) (1:Nat) (1:Nat))]).bind fun (t:T0) => (R1 [AV.s (SV.dat (TRow.ints IntKind.i64 (List.take (32:Nat) (List.drop (0:Nat) x0))) (32:Nat) (1:Nat)),AV.s (SV.dat (TRow.ints IntKind.i64 (f0a t)) (f0b t) (1:Nat))]).bind fun (t:T1) => G (some (FRd_s1 (f1a t) (f1b t))) else none else none else H (Ex.exit (0:Nat)) (some (FRd_o1e0 x0 n0)):=by kernel_rfl
noncomputable def FRd_s2 (x0:List Int) (n0:Nat) (v3:Int):St:={ tm:=[((0:Nat),AV.s (SV.dat (TRow.ints IntKind.i64 x0) n0 (1:Nat))),((3:Nat),AV.int IntKind.i64 v3)],hp:=[],nx:=(0:Nat),sz:=(41:Nat) }
noncomputable def FRd_b2:Code:=bodyL (codeAt [1,1,1,0,2] (codeF f_opalineref05_Red))
noncomputable def FRd_k2 (fu:Nat):=kAt prog (g_FRd T0 R0 f0a f0b T1 R1 f1a f1b T2 R2 f2a f2b T3 R3 f3a T4 R4 f4a f4b) fu [1,1,1,0,2] (codeF f_opalineref05_Red) (kFin prog f_opalineref05_Red)
noncomputable abbrev FRd_L2 (fu:Nat) (x0:List Int) (n0:Nat) (v3:Int):=lpA prog (g_FRd T0 R0 f0a f0b T1 R1 f1a f1b T2 R2 f2a f2b T3 R3 f3a T4 R4 f4a f4b) fu FRd_b2 (FRd_k2 T0 R0 f0a f0b T1 R1 f1a f1b T2 R2 f2a f2b T3 R3 f3a T4 R4 f4a f4b fu ) fu (some (FRd_s2 x0 n0 v3))
theorem FRd_c1e0 (fu:Nat) (x0:List Int) (n0:Nat):FRd_k1 T0 R0 f0a f0b T1 R1 f1a f1b T2 R2 f2a f2b T3 R3 f3a T4 R4 f4a f4b fu  (Ex.exit 0) (FRd_o1e0 x0 n0) = FRd_L2 T0 R0 f0a f0b T1 R1 f1a f1b T2 R2 f2a f2b T3 R3 f3a T4 R4 f4a f4b fu x0 n0 (↑n0:Int):=by kernel_rfl
noncomputable def FRd_o2e2 (x0:List Int) (n0:Nat) (v3:Int):St:={ tm:=[((0:Nat),AV.s (SV.dat (TRow.ints IntKind.i64 x0) n0 (1:Nat))),((3:Nat),AV.int IntKind.i64 v3)],hp:=[],nx:=(0:Nat),sz:=(41:Nat) }
theorem FRd_r2 {β:Type} (fu:Nat) (G:Option St→Option β) (H:Ex→Option St→Option β) (x0:List Int) (n0:Nat) (v3:Int):lpR prog (g_FRd T0 R0 f0a f0b T1 R1 f1a f1b T2 R2 f2a f2b T3 R3 f3a T4 R4 f4a f4b) fu FRd_b2 G H (FRd_s2 x0 n0 v3) = bif decide ((0:Int) < v3) then bif decide ((0:Int) ≤ IntKind.i64.wrap (v3 - (1:Int)) ∧ IntKind.i64.wrap (v3 - (1:Int)) < (↑n0:Int)) then bif decide (x0.getD (IntKind.i64.wrap (v3 - (1:Int))).toNat (0:Int) = (0:Int)) then G (some (FRd_s2 x0 n0 (IntKind.i64.wrap (v3 - (1:Int))))) else H (Ex.exit (2:Nat)) (some (FRd_o2e2 x0 n0 v3)) else none else H (Ex.exit (2:Nat)) (some (FRd_o2e2 x0 n0 v3)):=by kernel_rfl
noncomputable def FRd_s3 (x0:List Int) (n0:Nat) (x4:List Int) (n4:Nat):St:={ tm:=[((0:Nat),AV.s (SV.dat (TRow.ints IntKind.i64 x0) n0 (1:Nat))),((4:Nat),AV.s (SV.dat (TRow.ints IntKind.i64 x4) n4 (1:Nat)))],hp:=[],nx:=(0:Nat),sz:=(41:Nat) }
noncomputable def FRd_b3:Code:=bodyL (codeAt [1,1,1,1,1,1,0,2] (codeF f_opalineref05_Red))
noncomputable def FRd_k3 (fu:Nat):=kAt prog (g_FRd T0 R0 f0a f0b T1 R1 f1a f1b T2 R2 f2a f2b T3 R3 f3a T4 R4 f4a f4b) fu [1,1,1,1,1,1,0,2] (codeF f_opalineref05_Red) (kFin prog f_opalineref05_Red)
noncomputable abbrev FRd_L3 (fu:Nat) (x0:List Int) (n0:Nat) (x4:List Int) (n4:Nat):=lpA prog (g_FRd T0 R0 f0a f0b T1 R1 f1a f1b T2 R2 f2a f2b T3 R3 f3a T4 R4 f4a f4b) fu FRd_b3 (FRd_k3 T0 R0 f0a f0b T1 R1 f1a f1b T2 R2 f2a f2b T3 R3 f3a T4 R4 f4a f4b fu ) fu (some (FRd_s3 x0 n0 x4 n4))
theorem FRd_c2e2 (fu:Nat) (x0:List Int) (n0:Nat) (v3:Int):FRd_k2 T0 R0 f0a f0b T1 R1 f1a f1b T2 R2 f2a f2b T3 R3 f3a T4 R4 f4a f4b fu  (Ex.exit 2) (FRd_o2e2 x0 n0 v3) = bif decide ((0:Int) ≤ (0:Int) ∧ (0:Int) ≤ v3 ∧ v3 ≤ (↑n0:Int)) then (R2 []).bind fun (t:T2) => FRd_L3 T0 R0 f0a f0b T1 R1 f1a f1b T2 R2 f2a f2b T3 R3 f3a T4 R4 f4a f4b fu (List.take ((v3 - (0:Int)).toNat * (1:Nat)) (List.drop (0:Nat) x0)) (v3 - (0:Int)).toNat (f2a t) (f2b t) else none:=by kernel_rfl
noncomputable def FRd_o3e4 (x0:List Int) (n0:Nat):St:={ tm:=[((0:Nat),AV.s (SV.dat (TRow.ints IntKind.i64 x0) n0 (1:Nat)))],hp:=[],nx:=(0:Nat),sz:=(41:Nat) }
theorem FRd_r3 {β:Type} (fu:Nat) (G:Option St→Option β) (H:Ex→Option St→Option β) (x0:List Int) (n0:Nat) (x4:List Int) (n4:Nat):lpR prog (g_FRd T0 R0 f0a f0b T1 R1 f1a f1b T2 R2 f2a f2b T3 R3 f3a T4 R4 f4a f4b) fu FRd_b3 G H (FRd_s3 x0 n0 x4 n4) = (R3 [AV.s (SV.dat (TRow.ints IntKind.i64 x0) n0 (1:Nat)),AV.s (SV.dat (TRow.ints IntKind.i64 x4) n4 (1:Nat))]).bind fun (t:T3) => bif decide ((0:Int) ≤ f3a t) then (R4 [AV.s (SV.dat (TRow.ints IntKind.i64 x0) n0 (1:Nat)),AV.s (SV.dat (TRow.ints IntKind.i64 x4) n4 (1:Nat))]).bind fun (t:T4) => G (some (FRd_s3 (f4a t) (f4b t) x4 n4)) else H (Ex.exit (4:Nat)) (some (FRd_o3e4 x0 n0)):=by kernel_rfl
theorem FRd_c3e4 (fu:Nat) (x0:List Int) (n0:Nat):FRd_k3 T0 R0 f0a f0b T1 R1 f1a f1b T2 R2 f2a f2b T3 R3 f3a T4 R4 f4a f4b fu  (Ex.exit 4) (FRd_o3e4 x0 n0) = some (AV.s (SV.dat (TRow.ints IntKind.i64 x0) n0 (1:Nat))):=by kernel_rfl
end
noncomputable def g_FRO (T0:Type) (R0:List AV→Option T0) (f0a:T0→List Int) (f0b:T0→Nat) (T1:Type) (R1:List AV→Option T1) (f1a:T1→List Int) (f1b:T1→Nat):Cg:=⟨⟨gam [(n_opalineref01_Of,⟨R0,fun t => AV.s (SV.dat (TRow.ints IntKind.i64 (f0a t)) (f0b t) 1)⟩),(n_opalineref05_Red,⟨R1,fun t => AV.s (SV.dat (TRow.ints IntKind.i64 (f1a t)) (f1b t) 1)⟩)],[],noE⟩,[(4,[1,3,4],[3])]⟩
section
variable (T0:Type) (R0:List AV→Option T0) (f0a:T0→List Int) (f0b:T0→Nat) (T1:Type) (R1:List AV→Option T1) (f1a:T1→List Int) (f1b:T1→Nat)
noncomputable def FRO_s1 (n3:Nat) (v4:Int) (x_0:List Int) (m_1:Nat) (x_1:List Int):St:={ tm:=[((1:Nat),AV.s (SV.ptr (0:Nat) (0:Nat) (32:Nat))),((3:Nat),AV.s (SV.own (1:Nat) n3 (1:Nat))),((4:Nat),AV.int IntKind.i64 v4)],hp:=[((0:Nat),{ ty:=(28:Nat),n:=(32:Nat),row:=Row.t (TRow.ints IntKind.u8 x_0) }),((1:Nat),{ ty:=(5:Nat),n:=m_1,row:=Row.t (TRow.ints IntKind.u8 x_1) })],nx:=(2:Nat),sz:=(20:Nat) }
noncomputable def FRO_b1:Code:=bodyL (codeAt [1,1,0,1,2] (codeF f_opalineref05_Of))
noncomputable def FRO_k1 (fu:Nat):=kAt prog (g_FRO T0 R0 f0a f0b T1 R1 f1a f1b) fu [1,1,0,1,2] (codeF f_opalineref05_Of) (kFin prog f_opalineref05_Of)
noncomputable abbrev FRO_L1 (fu:Nat) (n3:Nat) (v4:Int) (x_0:List Int) (m_1:Nat) (x_1:List Int):=lpA prog (g_FRO T0 R0 f0a f0b T1 R1 f1a f1b) fu FRO_b1 (FRO_k1 T0 R0 f0a f0b T1 R1 f1a f1b fu ) fu (some (FRO_s1 n3 v4 x_0 m_1 x_1))
theorem FRO_ev (fu:Nat) (a:List Int):afunc prog f_opalineref05_Of (g_FRO T0 R0 f0a f0b T1 R1 f1a f1b) fu [AV.agg (TRow.ints IntKind.u8 a) (32:Nat)] = FRO_L1 T0 R0 f0a f0b T1 R1 f1a f1b fu (32:Nat) (0:Int) a (32:Nat) (List.replicate (32:Nat) (0:Int)):=by kernel_rfl
noncomputable def FRO_o1e0 (n3 m_0:Nat) (x_0:List Int):St:={ tm:=[((3:Nat),AV.s (SV.own (0:Nat) n3 (1:Nat)))],hp:=[((0:Nat),{ ty:=(5:Nat),n:=m_0,row:=Row.t (TRow.ints IntKind.u8 x_0) })],nx:=(1:Nat),sz:=(20:Nat) }
theorem FRO_r1 {β:Type} (fu:Nat) (G:Option St→Option β) (H:Ex→Option St→Option β) (n3:Nat) (v4:Int) (x_0:List Int) (m_1:Nat) (x_1:List Int):lpR prog (g_FRO T0 R0 f0a f0b T1 R1 f1a f1b) fu FRO_b1 G H (FRO_s1 n3 v4 x_0 m_1 x_1) = bif decide (v4 < (32:Int)) then bif decide ((0:Int) ≤ v4 ∧ v4 < (32:Int)) then bif decide ((0:Int) ≤ v4 ∧ v4 < (↑n3:Int)) then G (some (FRO_s1 n3 (IntKind.i64.wrap (v4 + (1:Int))) x_0 m_1 (x_1.set v4.toNat (x_0.getD ((0:Nat) + v4.toNat) (0:Int))))) else none else none else H (Ex.exit (0:Nat)) (some (FRO_o1e0 n3 m_1 x_1)):=by kernel_rfl
theorem FRO_c1e0 (fu:Nat) (n3 m_0:Nat) (x_0:List Int):FRO_k1 T0 R0 f0a f0b T1 R1 f1a f1b fu  (Ex.exit 0) (FRO_o1e0 n3 m_0 x_0) = (R0 [AV.str (List.map b8 x_0)]).bind fun (t:T0) => (R1 [AV.s (SV.dat (TRow.ints IntKind.i64 (f0a t)) (f0b t) (1:Nat))]).bind fun (t:T1) => some (AV.s (SV.dat (TRow.ints IntKind.i64 (f1a t)) (f1b t) (1:Nat))):=by kernel_rfl
end
noncomputable def g_FRB:Cg:=⟨⟨gam [],[],noE⟩,[(4,[0,2,3,4],[2,3])]⟩
noncomputable def FRB_s1 (x0:List Int) (n0:Nat) (v4:Int) (x_0 x_1:List Int):St:={ tm:=[((0:Nat),AV.s (SV.dat (TRow.ints IntKind.i64 x0) n0 (1:Nat))),((2:Nat),AV.s (SV.ptr (0:Nat) (0:Nat) (32:Nat))),((3:Nat),AV.s (SV.ptr (1:Nat) (0:Nat) (32:Nat))),((4:Nat),AV.int IntKind.i64 v4)],hp:=[((0:Nat),{ ty:=(28:Nat),n:=(32:Nat),row:=Row.t (TRow.ints IntKind.u8 x_0) }),((1:Nat),{ ty:=(28:Nat),n:=(32:Nat),row:=Row.t (TRow.ints IntKind.u8 x_1) })],nx:=(2:Nat),sz:=(23:Nat) }
noncomputable def FRB_b1:Code:=bodyL (codeAt [1,1,0,1,2] (codeF f_opalineref05_Bytes))
noncomputable def FRB_k1 (fu:Nat):=kAt prog g_FRB fu [1,1,0,1,2] (codeF f_opalineref05_Bytes) (kFin prog f_opalineref05_Bytes)
noncomputable abbrev FRB_L1 (fu:Nat) (x0:List Int) (n0:Nat) (v4:Int) (x_0 x_1:List Int):=lpA prog g_FRB fu FRB_b1 (FRB_k1 fu ) fu (some (FRB_s1 x0 n0 v4 x_0 x_1))
theorem FRB_ev (fu:Nat) (x:Nat):afunc prog f_opalineref05_Bytes g_FRB fu [eN x] = FRB_L1 fu (nb x) (nb x).length (0:Int) [(0:Int),(0:Int),(0:Int),(0:Int),(0:Int),(0:Int),(0:Int),(0:Int),(0:Int),(0:Int),(0:Int),(0:Int),(0:Int),(0:Int),(0:Int),(0:Int),(0:Int),(0:Int),(0:Int),(0:Int),(0:Int),(0:Int),(0:Int),(0:Int),(0:Int),(0:Int),(0:Int),(0:Int),(0:Int),(0:Int),(0:Int),(0:Int)] [(0:Int),(0:Int),(0:Int),(0:Int),(0:Int),(0:Int),(0:Int),(0:Int),(0:Int),(0:Int),(0:Int),(0:Int),(0:Int),(0:Int),(0:Int),(0:Int),(0:Int),(0:Int),(0:Int),(0:Int),(0:Int),(0:Int),(0:Int),(0:Int),(0:Int),(0:Int),(0:Int),(0:Int),(0:Int),(0:Int),(0:Int),(0:Int)]:=by kernel_rfl
noncomputable def FRB_o1e0 (x_0 x_1:List Int):St:={ tm:=[((2:Nat),AV.s (SV.ptr (0:Nat) (0:Nat) (32:Nat))),((3:Nat),AV.s (SV.ptr (1:Nat) (0:Nat) (32:Nat)))],hp:=[((0:Nat),{ ty:=(28:Nat),n:=(32:Nat),row:=Row.t (TRow.ints IntKind.u8 x_0) }),((1:Nat),{ ty:=(28:Nat),n:=(32:Nat),row:=Row.t (TRow.ints IntKind.u8 x_1) })],nx:=(2:Nat),sz:=(23:Nat) }
theorem FRB_r1 {β:Type} (fu:Nat) (G:Option St→Option β) (H:Ex→Option St→Option β) (x0:List Int) (n0:Nat) (v4:Int) (x_0 x_1:List Int):lpR prog g_FRB fu FRB_b1 G H (FRB_s1 x0 n0 v4 x_0 x_1) = bif decide (v4 < (↑n0:Int)) && decide (v4 < (32:Int)) then bif decide ((0:Int) ≤ v4 ∧ v4 < (↑n0:Int)) then bif decide ((0:Int) ≤ v4 ∧ v4 < (32:Int)) then G (some (FRB_s1 x0 n0 (IntKind.i64.wrap (v4 + (1:Int))) x_0 (x_1.set ((0:Nat) + v4.toNat) (IntKind.u8.wrap (x0.getD v4.toNat (0:Int)))))) else none else none else H (Ex.exit (0:Nat)) (some (FRB_o1e0 x_0 x_1)):=by kernel_rfl
theorem FRB_c1e0 (fu:Nat) (x_0 x_1:List Int):FRB_k1 fu  (Ex.exit 0) (FRB_o1e0 x_0 x_1) = some (AV.agg (TRow.ints IntKind.u8 x_1) (32:Nat)):=by kernel_rfl
noncomputable def g_FRA (T0:Type) (R0:List AV→Option T0) (f0a:T0→List Int) (f0b:T0→Nat) (T1:Type) (R1:List AV→Option T1) (f1a:T1→List Int) (f1b:T1→Nat):Cg:=⟨⟨gam [(n_opalineref01_Add,⟨R0,fun t => AV.s (SV.dat (TRow.ints IntKind.i64 (f0a t)) (f0b t) 1)⟩),(n_opalineref05_Red,⟨R1,fun t => AV.s (SV.dat (TRow.ints IntKind.i64 (f1a t)) (f1b t) 1)⟩)],[],noE⟩,[]⟩
section
variable (T0:Type) (R0:List AV→Option T0) (f0a:T0→List Int) (f0b:T0→Nat) (T1:Type) (R1:List AV→Option T1) (f1a:T1→List Int) (f1b:T1→Nat)
theorem FRA_ev (fu:Nat) (x y:Nat):afunc prog f_opalineref05_Add (g_FRA T0 R0 f0a f0b T1 R1 f1a f1b) fu [eN x,eN y] = (R0 [AV.s (SV.dat (TRow.ints IntKind.i64 (nb x)) (nb x).length (1:Nat)),AV.s (SV.dat (TRow.ints IntKind.i64 (nb y)) (nb y).length (1:Nat))]).bind fun (t:T0) => (R1 [AV.s (SV.dat (TRow.ints IntKind.i64 (f0a t)) (f0b t) (1:Nat))]).bind fun (t:T1) => some (AV.s (SV.dat (TRow.ints IntKind.i64 (f1a t)) (f1b t) (1:Nat))):=by kernel_rfl
end
noncomputable def g_FRS (T0:Type) (R0:List AV→Option T0) (f0a:T0→List Int) (f0b:T0→Nat) (T1:Type) (R1:List AV→Option T1) (f1a:T1→List Int) (f1b:T1→Nat) (T2:Type) (R2:List AV→Option T2) (f2a:T2→List Int) (f2b:T2→Nat) (T3:Type) (R3:List AV→Option T3) (f3a:T3→List Int) (f3b:T3→Nat):Cg:=⟨⟨gam [(n_opalineref05_P,⟨R0,fun t => AV.s (SV.dat (TRow.ints IntKind.i64 (f0a t)) (f0b t) 1)⟩),(n_opalineref01_Add,⟨R1,fun t => AV.s (SV.dat (TRow.ints IntKind.i64 (f1a t)) (f1b t) 1)⟩),(n_opalineref01_Sub,⟨R2,fun t => AV.s (SV.dat (TRow.ints IntKind.i64 (f2a t)) (f2b t) 1)⟩),(n_opalineref05_Red,⟨R3,fun t => AV.s (SV.dat (TRow.ints IntKind.i64 (f3a t)) (f3b t) 1)⟩)],[],noE⟩,[]⟩
section
variable (T0:Type) (R0:List AV→Option T0) (f0a:T0→List Int) (f0b:T0→Nat) (T1:Type) (R1:List AV→Option T1) (f1a:T1→List Int) (f1b:T1→Nat) (T2:Type) (R2:List AV→Option T2) (f2a:T2→List Int) (f2b:T2→Nat) (T3:Type) (R3:List AV→Option T3) (f3a:T3→List Int) (f3b:T3→Nat)
theorem FRS_ev (fu:Nat) (x y:Nat):afunc prog f_opalineref05_Sub (g_FRS T0 R0 f0a f0b T1 R1 f1a f1b T2 R2 f2a f2b T3 R3 f3a f3b) fu [eN x,eN y] = (R0 []).bind fun (t:T0) => (R1 [AV.s (SV.dat (TRow.ints IntKind.i64 (nb x)) (nb x).length (1:Nat)),AV.s (SV.dat (TRow.ints IntKind.i64 (f0a t)) (f0b t) (1:Nat))]).bind fun (t:T1) => (R2 [AV.s (SV.dat (TRow.ints IntKind.i64 (f1a t)) (f1b t) (1:Nat)),AV.s (SV.dat (TRow.ints IntKind.i64 (nb y)) (nb y).length (1:Nat))]).bind fun (t:T2) => (R3 [AV.s (SV.dat (TRow.ints IntKind.i64 (f2a t)) (f2b t) (1:Nat))]).bind fun (t:T3) => some (AV.s (SV.dat (TRow.ints IntKind.i64 (f3a t)) (f3b t) (1:Nat))):=by kernel_rfl
end
noncomputable def g_FRM (T0:Type) (R0:List AV→Option T0) (f0a:T0→List Int) (f0b:T0→Nat) (T1:Type) (R1:List AV→Option T1) (f1a:T1→List Int) (f1b:T1→Nat):Cg:=⟨⟨gam [(n_opalineref01_Mul,⟨R0,fun t => AV.s (SV.dat (TRow.ints IntKind.i64 (f0a t)) (f0b t) 1)⟩),(n_opalineref05_Red,⟨R1,fun t => AV.s (SV.dat (TRow.ints IntKind.i64 (f1a t)) (f1b t) 1)⟩)],[],noE⟩,[]⟩
section
variable (T0:Type) (R0:List AV→Option T0) (f0a:T0→List Int) (f0b:T0→Nat) (T1:Type) (R1:List AV→Option T1) (f1a:T1→List Int) (f1b:T1→Nat)
theorem FRM_ev (fu:Nat) (x y:Nat):afunc prog f_opalineref05_Mul (g_FRM T0 R0 f0a f0b T1 R1 f1a f1b) fu [eN x,eN y] = (R0 [AV.s (SV.dat (TRow.ints IntKind.i64 (nb x)) (nb x).length (1:Nat)),AV.s (SV.dat (TRow.ints IntKind.i64 (nb y)) (nb y).length (1:Nat))]).bind fun (t:T0) => (R1 [AV.s (SV.dat (TRow.ints IntKind.i64 (f0a t)) (f0b t) (1:Nat))]).bind fun (t:T1) => some (AV.s (SV.dat (TRow.ints IntKind.i64 (f1a t)) (f1b t) (1:Nat))):=by kernel_rfl
end
noncomputable def g_FRo2:Cg:=⟨⟨gam [],[],noE⟩,[]⟩
theorem FRo2_ev (fu:Nat) (x:Nat):afunc prog f_opalineref05_Neg g_FRo2 fu [eN x] = bif decide ((0:Int) < (↑(nb x).length:Int)) then bif decide ((0:Int) ≤ (0:Int) ∧ (0:Int) < (↑(nb x).length:Int)) then some (AV.bool (decide (((nb x).getD (0:Nat) (0:Int)).tmod (2:Int) = (1:Int)))) else none else some (AV.bool false):=by kernel_rfl
noncomputable def g_FRb (T0:Type) (R0:List AV→Option T0) (f0a:T0→Bool) (T1:Type) (R1:List AV→Option T1) (f1a:T1→List Int) (f1b:T1→Nat):Cg:=⟨⟨gam [(n_opalineref05_Neg,⟨R0,fun t => AV.bool (f0a t)⟩),(n_opalineref05_Sub,⟨R1,fun t => AV.s (SV.dat (TRow.ints IntKind.i64 (f1a t)) (f1b t) 1)⟩)],[],noE⟩,[]⟩
section
variable (T0:Type) (R0:List AV→Option T0) (f0a:T0→Bool) (T1:Type) (R1:List AV→Option T1) (f1a:T1→List Int) (f1b:T1→Nat)
theorem FRb_ev (fu:Nat) (x:Nat):afunc prog f_opalineref05_Abs (g_FRb T0 R0 f0a T1 R1 f1a f1b) fu [eN x] = (R0 [AV.s (SV.dat (TRow.ints IntKind.i64 (nb x)) (nb x).length (1:Nat))]).bind fun (t:T0) => bif f0a t then (R1 [AV.s (SV.dat (TRow.ints IntKind.i64 []) (0:Nat) (1:Nat)),AV.s (SV.dat (TRow.ints IntKind.i64 (nb x)) (nb x).length (1:Nat))]).bind fun (t:T1) => some (AV.s (SV.dat (TRow.ints IntKind.i64 (f1a t)) (f1b t) (1:Nat))) else some (AV.s (SV.dat (TRow.ints IntKind.i64 (nb x)) (nb x).length (1:Nat))):=by kernel_rfl
end
section
variable (T0:Type) (R0:List AV→Option T0) (f0a:T0→List Int) (T1:Type) (R1:List AV→Option T1) (f1a:T1→List Int)
end
noncomputable def g_FAw (T0:Type) (R0:List AV→Option T0) (f0a:T0→Int) (f0b:T0→Int) (f0c:T0→Int) (f0d:T0→Int) (f0e:T0→Int) (T1:Type) (R1:List AV→Option T1) (f1a:T1→Int) (f1b:T1→Int) (f1c:T1→Int) (f1d:T1→Int) (f1e:T1→Int) (T2:Type) (R2:List AV→Option T2) (T3:Type) (R3:List AV→Option T3) (f3a:T3→Int) (f3b:T3→Int) (f3c:T3→Int) (f3d:T3→Int) (f3e:T3→Int) (T4:Type) (R4:List AV→Option T4) (f4a:T4→Bool) (T5:Type) (R5:List AV→Option T5) (f5a:T5→Bool) (T6:Type) (R6:List AV→Option T6) (f6a:T6→Int) (f6b:T6→Int) (f6c:T6→Int) (f6d:T6→Int) (f6e:T6→Int):Cg:=⟨⟨gam [(n_field_Of,⟨R0,fun t => AV.agg (TRow.ints IntKind.u64 [(f0a t),(f0b t),(f0c t),(f0d t),(f0e t)]) 5⟩),(n_field_Element_Invert,⟨R1,fun t => AV.agg (TRow.ints IntKind.u64 [(f1a t),(f1b t),(f1c t),(f1d t),(f1e t)]) 5⟩),(n_opalinelaw01_Awake,⟨R2,fun t => AV.bool (true)⟩),(n_field_Element_Mul,⟨R3,fun t => AV.agg (TRow.ints IntKind.u64 [(f3a t),(f3b t),(f3c t),(f3d t),(f3e t)]) 5⟩),(n_field_Element_Same,⟨R4,fun t => AV.bool (f4a t)⟩),(n_field_Element_Zero,⟨R5,fun t => AV.bool (f5a t)⟩),(n_field_Decimal,⟨R6,fun t => AV.agg (TRow.ints IntKind.u64 [(f6a t),(f6b t),(f6c t),(f6d t),(f6e t)]) 5⟩)],[],noE⟩,[]⟩
section
variable (T0:Type) (R0:List AV→Option T0) (f0a:T0→Int) (f0b:T0→Int) (f0c:T0→Int) (f0d:T0→Int) (f0e:T0→Int) (T1:Type) (R1:List AV→Option T1) (f1a:T1→Int) (f1b:T1→Int) (f1c:T1→Int) (f1d:T1→Int) (f1e:T1→Int) (T2:Type) (R2:List AV→Option T2) (T3:Type) (R3:List AV→Option T3) (f3a:T3→Int) (f3b:T3→Int) (f3c:T3→Int) (f3d:T3→Int) (f3e:T3→Int) (T4:Type) (R4:List AV→Option T4) (f4a:T4→Bool) (T5:Type) (R5:List AV→Option T5) (f5a:T5→Bool) (T6:Type) (R6:List AV→Option T6) (f6a:T6→Int) (f6b:T6→Int) (f6c:T6→Int) (f6d:T6→Int) (f6e:T6→Int)
theorem FAw_ev (fu:Nat):afunc prog f_opalinelaw05_awake (g_FAw T0 R0 f0a f0b f0c f0d f0e T1 R1 f1a f1b f1c f1d f1e T2 R2 T3 R3 f3a f3b f3c f3d f3e T4 R4 f4a T5 R5 f5a T6 R6 f6a f6b f6c f6d f6e) fu [] = (R0 [AV.int IntKind.u64 (2:Int)]).bind fun (t:T0) => (R1 [AV.agg (TRow.ints IntKind.u64 [f0a t,f0b t,f0c t,f0d t,f0e t]) (5:Nat)]).bind fun (t:T1) => (R2 []).bind fun (t_1:T2) => (R0 [AV.int IntKind.u64 (2:Int)]).bind fun (t_2:T0) => (R3 [AV.agg (TRow.ints IntKind.u64 [f1a t,f1b t,f1c t,f1d t,f1e t]) (5:Nat),AV.agg (TRow.ints IntKind.u64 [f0a t_2,f0b t_2,f0c t_2,f0d t_2,f0e t_2]) (5:Nat)]).bind fun (t_3:T3) => (R0 [AV.int IntKind.u64 (1:Int)]).bind fun (t_4:T0) => (R4 [AV.agg (TRow.ints IntKind.u64 [f3a t_3,f3b t_3,f3c t_3,f3d t_3,f3e t_3]) (5:Nat),AV.agg (TRow.ints IntKind.u64 [f0a t_4,f0b t_4,f0c t_4,f0d t_4,f0e t_4]) (5:Nat)]).bind fun (t_5:T4) => bif f4a t_5 then (R5 [AV.agg (TRow.ints IntKind.u64 [f1a t,f1b t,f1c t,f1d t,f1e t]) (5:Nat)]).bind fun (t:T5) => bif !f5a t then (R6 [AV.str ([(53:UInt8),(55:UInt8),(56:UInt8),(57:UInt8),(54:UInt8),(48:UInt8),(52:UInt8),(52:UInt8),(54:UInt8),(49:UInt8),(56:UInt8),(54:UInt8),(53:UInt8),(56:UInt8),(48:UInt8),(57:UInt8),(55:UInt8),(55:UInt8),(49:UInt8),(49:UInt8),(55:UInt8),(56:UInt8),(53:UInt8),(52:UInt8),(57:UInt8),(50:UInt8),(53:UInt8),(48:UInt8),(52:UInt8),(51:UInt8),(52:UInt8),(51:UInt8),(57:UInt8),(53:UInt8),(51:UInt8),(57:UInt8),(50:UInt8),(54:UInt8)].append [(54:UInt8),(51:UInt8),(52:UInt8),(57:UInt8),(57:UInt8),(50:UInt8),(51:UInt8),(51:UInt8),(50:UInt8),(56:UInt8),(50:UInt8),(48:UInt8),(50:UInt8),(56:UInt8),(50:UInt8),(48:UInt8),(49:UInt8),(57:UInt8),(55:UInt8),(50:UInt8),(56:UInt8),(55:UInt8),(57:UInt8),(50:UInt8),(48:UInt8),(48:UInt8),(51:UInt8),(57:UInt8),(53:UInt8),(54:UInt8),(53:UInt8),(54:UInt8),(52:UInt8),(56:UInt8),(49:UInt8),(57:UInt8),(57:UInt8),(53:UInt8),(48:UInt8)])]).bind fun (t:T6) => (R0 [AV.int IntKind.u64 (1:Int)]).bind fun (t_6:T0) => (R4 [AV.agg (TRow.ints IntKind.u64 [f6a t,f6b t,f6c t,f6d t,f6e t]) (5:Nat),AV.agg (TRow.ints IntKind.u64 [f0a t_6,f0b t_6,f0c t_6,f0d t_6,f0e t_6]) (5:Nat)]).bind fun (t:T4) => some (AV.bool (f4a t)) else some (AV.bool false) else some (AV.bool false):=by kernel_rfl
end
noncomputable def g_FA1 (T0:Type) (R0:List AV→Option T0):Cg:=⟨⟨gam [(n_opalinelaw01_awake,⟨R0,fun t => AV.bool (true)⟩)],[],noE⟩,[]⟩
section
variable (T0:Type) (R0:List AV→Option T0)
theorem FA1_ev (fu:Nat):afunc prog f_opalinelaw01_Awake (g_FA1 T0 R0) fu [] = (R0 []).bind fun (t:T0) => some (AV.bool true):=by kernel_rfl
end
end Go.Eng
/- The document's numbers modulo 2^255 - 19: their contracts. -/
namespace Go.Eng
open Go Go.Proofs
set_option linter.unusedVariables false
set_option linter.unusedSimpArgs false
set_option maxRecDepth 4000
noncomputable abbrev gI_FMd:Cg:=g_FMd (Nat × Bool) rRefDecimal (fun t => nb t.fst) (fun t => (nb t.fst).length) (fun t => t.2)
theorem gok_FMd:CfOk prog gI_FMd.c:=⟨gam_cons ok_RefDecimal <| gam_nil,fun _ _ h => by cases h⟩
theorem ok_RMod:CallOk prog n_opalineref01_Mod sRMod:=by
  refine afunc_okE (g:=gI_FMd) (fu:=fun _ => 0) mixed gok_FMd h_opalineref01_Mod (by kernel_rfl) ?_
  intro args t ht
  unfold sRMod at ht
  simp only at ht
  split at ht
  · rename_i s
    obtain ⟨h1,h2⟩:=ctrueS ht
    subst h2
    refine (FMd_ev ..).trans ?_
    rw [run_RefDecimal (of_decide_eq_true h1),Option.bind_some]
    cases decOk s <;> rfl
  · cases ht
noncomputable abbrev gI_FRP:Cg:=g_FRP (Nat) rRMod (fun t => nb t) (fun t => (nb t).length)
theorem gok_FRP:CfOk prog gI_FRP.c:=⟨gam_cons ok_RMod <| gam_nil,fun _ _ h => by cases h⟩
theorem ok_RP:CallOk prog n_opalineref05_P sRP:=by
  refine afunc_okE (g:=gI_FRP) (fu:=fun _ => 0) mixed gok_FRP h_opalineref05_P (by kernel_rfl) ?_
  intro args t ht
  unfold sRP at ht
  simp only at ht
  split at ht
  · cases ht
    refine (FRP_ev ..).trans ?_
    refine Eq.trans (b:=(some P25).bind fun (t:Nat) => some (AV.s (SV.dat (TRow.ints IntKind.i64 (nb t)) (nb t).length 1))) ?_ rfl
    congr 1
  · cases ht
theorem run_RP:rRP [] = some P25:=rfl
theorem nb_len_iff (x k:Nat):k < (nb x).length ↔ 256 ^ k ≤ x:=by
  constructor
  · exact pow_le_nb
  · intro h
    rcases Nat.lt_or_ge k (nb x).length with g | g
    · exact g
    · have:=lt_nb x
      have:=Nat.pow_le_pow_right (n:=256) (by decide) g
      omega
theorem nb_len_le {x k:Nat} (h:x < 256 ^ k):(nb x).length ≤ k:=nb_len h
theorem lo_split (k:Nat):∀ (j x:Nat),lo (j + k) x = lo j x ++ lo k (x / 256 ^ j):=by
  intro j
  induction j with
  | zero => intro x; simp [lo]
  | succ j ih =>
    intro x
    rw [show j + 1 + k = (j + k) + 1 by omega,lo,lo,ih,List.cons_append,Nat.div_div_eq_div_mul,Nat.pow_succ,Nat.mul_comm 256]
theorem nb_drop (x j:Nat) (h:j ≤ (nb x).length):(nb x).drop j = nb (x / 256 ^ j):=by
  have e:=nb_eq_lo x
  have hk:(nb (x / 256 ^ j)).length = (nb x).length - j:=by
    refine Nat.le_antisymm (nb_len ?_) ?_
    · rw [Nat.div_lt_iff_lt_mul (Nat.pow_pos (by decide)),← Nat.pow_add,show (nb x).length - j + j = (nb x).length by omega]
      exact lt_nb x
    · rcases Nat.eq_zero_or_pos ((nb x).length - j) with h0 | h0
      · omega
      · have:(nb x).length - j - 1 < (nb (x / 256 ^ j)).length:=by
          rw [nb_len_iff,Nat.le_div_iff_mul_le (Nat.pow_pos (by decide)),← Nat.pow_add,← nb_len_iff]
          omega
        omega
  rw [nb_eq_lo (x / 256 ^ j),hk,e,length_lo,show (nb x).length = j + ((nb x).length - j) by omega,lo_split,List.drop_left' (length_lo ..)]
  rw [show j + ((nb x).length - j) - j = (nb x).length - j by omega]
theorem eN38:AV.s (SV.dat (TRow.ints IntKind.i64 [(38:Int)]) 1 1) = eN 38:=rfl
noncomputable abbrev gI_FRd:Cg:=g_FRd (Nat) rRefMul (fun t => nb t) (fun t => (nb t).length) (Nat) rRefAdd (fun t => nb t) (fun t => (nb t).length) (Nat) rRP (fun t => nb t) (fun t => (nb t).length) (Int) rRefCmp (fun t => t) (Nat) rRefSub (fun t => nb t) (fun t => (nb t).length)
theorem gok_FRd:CfOk prog gI_FRd.c:=⟨gam_cons ok_RefMul <| gam_cons ok_RefAdd <| gam_cons ok_RP <| gam_cons ok_RefCmp <| gam_cons ok_RefSub <| gam_nil,fun _ _ h => by cases h⟩
theorem lenP:(nb P25).length = 32:=by decide +kernel
theorem rd3 (fu:Nat):∀ (d n x:Nat),x < (d + 1) * P25→x < 256 ^ 32→d < n →
    lpA prog gI_FRd fu FRd_b3 (FRd_k3 _ rRefMul (fun t => nb t) (fun t => (nb t).length) _ rRefAdd (fun t => nb t) (fun t => (nb t).length) _ rRP (fun t => nb t) (fun t => (nb t).length) _ rRefCmp (fun t => t) _ rRefSub (fun t => nb t) (fun t => (nb t).length) fu) n (some (FRd_s3 (nb x) (nb x).length (nb P25) (nb P25).length)) = some (eN (x % P25)):=by
  intro d
  have hP:=lenP
  induction d with
  | zero =>
    intro n x hx hx2 hn
    obtain ⟨n,rfl⟩:=Nat.exists_eq_succ_of_ne_zero (by omega:n ≠ 0)
    have hl:=nb_len_le hx2
    have hc:=run_RefCmp (x:=x) (y:=P25) (by omega) (by omega)
    simp only [eN] at hc
    rw [lpA_succ,FRd_r3,hc,Option.bind_some,cmpN_ge,decide_eq_false (by omega),cond_false,kOut_some,FRd_c3e4,Nat.mod_eq_of_lt (by omega)]
    rfl
  | succ d ih =>
    intro n x hx hx2 hn
    obtain ⟨n,rfl⟩:=Nat.exists_eq_succ_of_ne_zero (by omega:n ≠ 0)
    have hl:=nb_len_le hx2
    have hc:=run_RefCmp (x:=x) (y:=P25) (by omega) (by omega)
    simp only [eN] at hc
    rw [lpA_succ,FRd_r3,hc,Option.bind_some,cmpN_ge]
    by_cases c:P25 ≤ x
    · have hs:=run_RefSub (x:=x) (y:=P25) (by omega) (by omega) c
      simp only [eN] at hs
      rw [decide_eq_true c,cond_true,hs,Option.bind_some,Nat.mod_eq_sub_mod c]
      exact ih n (x - P25) (by rw [Nat.add_mul] at hx; omega) (by omega) (by omega)
    · rw [decide_eq_false c,cond_false,kOut_some,FRd_c3e4,Nat.mod_eq_of_lt (by omega)]
      rfl
theorem rd2 (fu:Nat) (hfu:3 < fu) (x:Nat) (hx:x < 256 ^ 32):FRd_k1 _ rRefMul (fun t => nb t) (fun t => (nb t).length) _ rRefAdd (fun t => nb t) (fun t => (nb t).length) _ rRP (fun t => nb t) (fun t => (nb t).length) _ rRefCmp (fun t => t) _ rRefSub (fun t => nb t) (fun t => (nb t).length) fu (.exit 0) (FRd_o1e0 (nb x) (nb x).length) = some (eN (x % P25)):=by
  obtain ⟨m,rfl⟩:=Nat.exists_eq_succ_of_ne_zero (by omega:fu ≠ 0)
  have hl:=nb_len_le hx
  have hr:∀ (fu':Nat) (G:Option St→Option AV) (H:Ex→Option St→Option AV),lpR prog gI_FRd fu' FRd_b2 G H (FRd_s2 (nb x) (nb x).length ((nb x).length:Int)) = H (.exit 2) (some (FRd_o2e2 (nb x) (nb x).length ((nb x).length:Int))):=by
    intro fu' G H
    rw [FRd_r2]
    by_cases h0:(nb x).length = 0
    · rw [decide_eq_false (by omega),cond_false]
    · have ht:=trimLen_last (nb x) ((nb x).length - 1) (by rw [trimLen_nb]; omega)
      have e:IntKind.i64.wrap (((nb x).length:Int) - 1) = (((nb x).length - 1:Nat):Int):=by rw [wi64 (by omega) (by omega)]; omega
      rw [decide_eq_true (by omega),cond_true,e,decide_eq_true (by omega),cond_true,Int.toNat_natCast,decide_eq_false ht,cond_false]
  refine (FRd_c1e0 ..).trans ?_
  show lpA prog gI_FRd (m + 1) FRd_b2 _ (m + 1) (some _) = _
  rw [lpA_succ,hr,kOut_some,FRd_c2e2,decide_eq_true (by omega),cond_true,run_RP,Option.bind_some,Int.sub_zero,Int.toNat_natCast,Nat.mul_one,List.drop_zero,List.take_length]
  exact rd3 (m + 1) 2 (m + 1) x (by simp only [P25]; simp only [Nat.reducePow] at hx; omega) hx (by omega)
theorem rd1 (fu:Nat) (hfu:3 < fu):∀ (d n x:Nat),(∀ y,y = x→True)→d < n→(d = 0→x < 256 ^ 32)→(d = 1→x < 256 ^ 32 + 256 ^ 31)→(d = 2→x < 39 * 256 ^ 32)→(d = 3→x < 256 ^ 64)→d ≤ 3 →
    lpA prog gI_FRd fu FRd_b1 (FRd_k1 _ rRefMul (fun t => nb t) (fun t => (nb t).length) _ rRefAdd (fun t => nb t) (fun t => (nb t).length) _ rRP (fun t => nb t) (fun t => (nb t).length) _ rRefCmp (fun t => t) _ rRefSub (fun t => nb t) (fun t => (nb t).length) fu) n (some (FRd_s1 (nb x) (nb x).length)) = some (eN (x % P25)):=by
  intro d
  induction d with
  | zero =>
    intro n x _ hn h0 _ _ _ _
    obtain ⟨n,rfl⟩:=Nat.exists_eq_succ_of_ne_zero (by omega:n ≠ 0)
    have hl:=nb_len_le (h0 rfl)
    rw [lpA_succ,FRd_r1,decide_eq_false (by omega),cond_false,kOut_some]
    exact rd2 fu hfu x (h0 rfl)
  | succ d ih =>
    intro n x _ hn h0 h1 h2 h3 hd
    obtain ⟨n,rfl⟩:=Nat.exists_eq_succ_of_ne_zero (by omega:n ≠ 0)
    have hx:x < 256 ^ 64:=by
      simp only [Nat.reducePow] at *
      rcases (by omega:d = 0 ∨ d = 1 ∨ d = 2) with rfl | rfl | rfl
      · have:=h1 rfl; omega
      · have:=h2 rfl; omega
      · exact h3 rfl
    have hl:=nb_len_le hx
    by_cases c:x < 256 ^ 32
    · have hl:=nb_len_le c
      rw [lpA_succ,FRd_r1,decide_eq_false (by omega),cond_false,kOut_some]
      exact rd2 fu hfu x c
    · have hlt:32 < (nb x).length:=(nb_len_iff x 32).2 (by omega)
      have hq:x / 256 ^ 32 < 256 ^ 32:=by
        rw [Nat.div_lt_iff_lt_mul (Nat.pow_pos (by decide)),← Nat.pow_add]; exact hx
      have hm:=run_RefMul (x:=x / 256 ^ 32) (y:=38) (Nat.le_trans (nb_len_le hq) (by decide)) (by decide)
      have hq38:x / 256 ^ 32 * 38 < 256 ^ 33:=by simp only [Nat.reducePow] at hq ⊢; omega
      have ht:((nb x).take 32).length = 32:=by rw [List.length_take]; omega
      have ha:=run_RefAddR (a:=(nb x).take 32) (y:=x / 256 ^ 32 * 38) (okB_take 32 (okB_nb x)) (by omega) (Nat.le_trans (nb_len_le hq38) (by decide))
      rw [ht,vB_take _ _ (okB_nb x),vB_nb] at ha
      simp only [eN] at hm ha
      have e1:(((nb x).length:Int) - 32).toNat = (nb x).length - 32:=by omega
      have e2:List.take ((nb x).length - 32) (List.drop 32 (nb x)) = nb (x / 256 ^ 32):=by
        rw [List.take_of_length_le (by rw [List.length_drop]; omega),nb_drop x 32 (by omega)]
      have e3:(nb x).length - 32 = (nb (x / 256 ^ 32)).length:=by
        rw [← nb_drop x 32 (by omega),List.length_drop]
      rw [lpA_succ,FRd_r1,decide_eq_true (by omega),cond_true,decide_eq_true (by omega),cond_true,decide_eq_true (by omega),cond_true,e1,Nat.mul_one,e2,e3,eN38,eN,hm,Option.bind_some,List.drop_zero,ha,Option.bind_some]
      have hmod:x % P25 = (x % 256 ^ 32 + x / 256 ^ 32 * 38) % P25:=by
        have:x = x % 256 ^ 32 + x / 256 ^ 32 * 38 + P25 * (2 * (x / 256 ^ 32)):=by
          have:=Nat.div_add_mod x (256 ^ 32)
          simp only [Nat.reducePow,P25] at *
          omega
        rw [this,Nat.add_mul_mod_self_left,← this]
      rw [hmod]
      refine ih n _ (fun _ _ => trivial) (by omega) ?_ ?_ ?_ ?_ (by omega)
      · intro hd0
        have:=h1 (by omega)
        simp only [Nat.reducePow] at *
        omega
      · intro hd0
        have:=h2 (by omega)
        simp only [Nat.reducePow] at *
        omega
      · intro hd0
        simp only [Nat.reducePow] at *
        omega
      · intro hd0; omega
theorem ok_Red:CallOk prog n_opalineref05_Red sRed:=by
  refine afunc_okE (g:=gI_FRd) (fu:=fun _ => 6) mixed gok_FRd h_opalineref05_Red (by kernel_rfl) ?_
  intro args t ht
  unfold sRed runN1c at ht
  simp only at ht
  split at ht
  · rename_i a n
    obtain ⟨h1,h2⟩:=ctrueS ht
    rw [Bool.and_eq_true] at h1
    obtain ⟨x,rfl,rfl,hx,ex⟩:=okN_ok h1.1
    have h3:=Nat.blt_eq.mp h1.2
    rw [ex] at h3 h2
    subst h2
    refine (FRd_ev ..).trans ?_
    exact rd1 6 (by omega) 3 6 x (fun _ _ => trivial) (by omega) (by omega) (by omega) (by omega) (fun _ => h3) (by omega)
  · cases ht
theorem run_Red {x:Nat} (h:x < M512'):rRed [eN x] = some (x % P25):=by
  have hl:(nb x).length ≤ 64:=nb_len_le h
  simp only [rRed,sRed,runN1c,eN]
  rw [okN_nb (by omega),vB_nb,Nat.blt_eq.mpr h]; rfl
theorem rt_setF (R:List Int) (N i:Nat) (hN:R.length = N) (hi:i < N):(R.take i ++ List.replicate (N - i) 0).set i (R.getD i 0) = R.take (i + 1) ++ List.replicate (N - (i + 1)) 0:=by
  have e:R.take (i + 1) = R.take i ++ [R.getD i 0]:=by
    rw [List.take_add_one,List.getElem?_eq_getElem (by omega),List.getD_eq_getElem?_getD,List.getElem?_eq_getElem (by omega)]; rfl
  have hl:(R.take i).length = i:=by rw [List.length_take]; omega
  rw [e,List.set_append_right _ _ (by rw [hl]; omega),hl,Nat.sub_self,show N - i = N - (i + 1) + 1 by omega,List.replicate_succ,List.set_cons_zero,List.append_assoc]; rfl
noncomputable abbrev gI_FRO:Cg:=g_FRO (Nat) rRefOf (fun t => nb t) (fun t => (nb t).length) (Nat) rRed (fun t => nb t) (fun t => (nb t).length)
theorem gok_FRO:CfOk prog gI_FRO.c:=⟨gam_cons ok_RefOf <| gam_cons ok_Red <| gam_nil,fun _ _ h => by cases h⟩
theorem ro_loopF (a:List Int) (hl:a.length = 32) (hb:okB a = true) (m fu:Nat):∀ (d n i:Nat),i + d = 32→d < n →
    lpA prog gI_FRO fu FRO_b1 (FRO_k1 _ rRefOf (fun t => nb t) (fun t => (nb t).length) _ rRed (fun t => nb t) (fun t => (nb t).length) fu) n (some (FRO_s1 32 (i:Int) a m (a.take i ++ List.replicate (32 - i) 0))) = some (eN (vB a % P25)):=by
  intro d
  induction d with
  | zero =>
    intro n i hi hn
    obtain ⟨n,rfl⟩:=Nat.exists_eq_succ_of_ne_zero (by omega:n ≠ 0)
    have e:i = 32:=by omega
    subst e
    have h2:=vB_lt a hb
    rw [hl] at h2
    have hr:=run_Red (x:=vB a) (Nat.lt_trans h2 (by decide +kernel))
    simp only [eN] at hr
    rw [lpA_succ,FRO_r1,decide_eq_false (by omega),cond_false,kOut_some,FRO_c1e0,Nat.sub_self,List.replicate_zero,List.append_nil,List.take_of_length_le (by omega),run_RefOf (by rw [List.length_map]; omega),Option.bind_some,vS_b8 hb,hr]
    rfl
  | succ d ih =>
    intro n i hi hn
    obtain ⟨n,rfl⟩:=Nat.exists_eq_succ_of_ne_zero (by omega:n ≠ 0)
    have h:=ih n (i + 1) (by omega) (by omega)
    rw [lpA_succ,FRO_r1,decide_eq_true (by omega),cond_true,decide_eq_true (by omega),cond_true,decide_eq_true (by omega),cond_true,Int.toNat_natCast,Nat.zero_add,rt_setF a 32 i hl (by omega),wi64 (by omega) (by omega)]
    exact h
theorem ok_ROf:CallOk prog n_opalineref05_Of sROf:=by
  refine afunc_okE (g:=gI_FRO) (fu:=fun _ => 40) mixed gok_FRO h_opalineref05_Of (by kernel_rfl) ?_
  intro args t ht
  obtain ⟨a,rfl,ha,rfl⟩:=runB1_ok (F:=fun a => vB a % P25) ht
  obtain ⟨hl,hb⟩:=ok32_ok ha
  refine (FRO_ev ..).trans ?_
  exact ro_loopF a hl hb 32 40 32 40 0 (by omega) (by omega)
theorem run_ROf {a:List Int} (h:ok32 a = true):rROf [eB32 a] = some (vB a % P25):=by
  simp only [rROf,sROf]
  exact run_B1 (fun a => vB a % P25) h
noncomputable abbrev gI_FRB:Cg:=g_FRB 
theorem gok_FRB:CfOk prog gI_FRB.c:=⟨gam_nil,fun _ _ h => by cases h⟩
theorem rbF_end (x i:Nat) (hi:i ≤ 32) (h:x % 256 ^ 32 < 256 ^ i):(lo 32 x).take i ++ List.replicate (32 - i) 0 = lo 32 x:=by
  have hl:((lo 32 x).take i).length = i:=by rw [List.length_take,length_lo]; omega
  refine lo_inj ?_ (okB_lo ..) (by rw [List.length_append,hl,List.length_replicate,length_lo]; omega) ?_
  · rw [okB_app,okB_take i (okB_lo ..),okB_rep]; rfl
  · rw [vB_app,vB_rep,Nat.mul_zero,Nat.add_zero,vB_take _ _ (okB_lo ..),vB_lo]
    exact Nat.mod_eq_of_lt h
theorem rbF_loop (x:Nat) (hx:(nb x).length ≤ 1048576) (zs:List Int) (fu:Nat):∀ (d n i:Nat),i + d = min (nb x).length 32→d < n →
    lpA prog gI_FRB fu FRB_b1 (FRB_k1 fu) n (some (FRB_s1 (nb x) (nb x).length (i:Int) zs ((lo 32 x).take i ++ List.replicate (32 - i) 0))) = some (eB32 (lo 32 x)):=by
  intro d
  induction d with
  | zero =>
    intro n i hi hn
    obtain ⟨n,rfl⟩:=Nat.exists_eq_succ_of_ne_zero (by omega:n ≠ 0)
    have he:x % 256 ^ 32 < 256 ^ i:=by
      rcases Nat.lt_or_ge 32 (nb x).length with c | c
      · have:i = 32:=by omega
        subst this
        exact Nat.mod_lt _ (Nat.pow_pos (by decide))
      · have:i = (nb x).length:=by omega
        subst this
        exact Nat.lt_of_le_of_lt (Nat.mod_le _ _) (lt_nb x)
    have hc:(decide ((i:Int) < ((nb x).length:Int)) && decide ((i:Int) < 32)) = false:=by
      rcases Nat.lt_or_ge i (nb x).length with c | c
      · rw [decide_eq_false (by omega:¬ (i:Int) < 32),Bool.and_false]
      · rw [decide_eq_false (by omega:¬ (i:Int) < ((nb x).length:Int)),Bool.false_and]
    rw [lpA_succ,FRB_r1,hc,cond_false,kOut_some,FRB_c1e0,rbF_end x i (by omega) he]
    rfl
  | succ d ih =>
    intro n i hi hn
    obtain ⟨n,rfl⟩:=Nat.exists_eq_succ_of_ne_zero (by omega:n ≠ 0)
    have h:=ih n (i + 1) (by omega) (by omega)
    have g:IntKind.u8.wrap ((nb x).getD i 0) = (lo 32 x).getD i 0:=by
      rw [nb_dg x i (by omega),getD_lo 32 x i (by omega),wu8n,Nat.mod_eq_of_lt (dg_lt x i)]; rfl
    rw [lpA_succ,FRB_r1,decide_eq_true (by omega:(i:Int) < ((nb x).length:Int)),decide_eq_true (by omega:(i:Int) < 32),Bool.true_and,cond_true,decide_eq_true (by omega),cond_true,decide_eq_true (by omega),cond_true,Int.toNat_natCast,Nat.zero_add,g,rt_setF (lo 32 x) 32 i (length_lo ..) (by omega),wi64 (by omega) (by omega)]
    exact h
theorem ok_RBy:CallOk prog n_opalineref05_Bytes sRBy:=by
  refine afunc_okE (g:=gI_FRB) (fu:=fun _ => 40) mixed gok_FRB h_opalineref05_Bytes (by kernel_rfl) ?_
  intro args t ht
  obtain ⟨x,rfl,hx,rfl⟩:=runN1_ok (F:=fun x => lo 32 x) ht
  refine (FRB_ev ..).trans ?_
  exact rbF_loop x hx (List.replicate 32 0) 40 (min (nb x).length 32) 40 0 (by omega) (by omega)
theorem run_RBy {x:Nat} (h:(nb x).length ≤ 1048576):rRBy [eN x] = some (lo 32 x):=by
  simp only [rRBy,sRBy]
  exact run_N1 (fun x => lo 32 x) h
theorem P_len {x:Nat} (h:x < P25):(nb x).length ≤ 32:=nb_len_le (Nat.lt_trans h (by decide +kernel))
theorem bP_ok {x:Nat} (h:bP x = true):x < P25:=Nat.blt_eq.mp h
theorem bP_of {x:Nat} (h:x < P25):bP x = true:=Nat.blt_eq.mpr h
noncomputable abbrev gI_FRA:Cg:=g_FRA (Nat) rRefAdd (fun t => nb t) (fun t => (nb t).length) (Nat) rRed (fun t => nb t) (fun t => (nb t).length)
theorem gok_FRA:CfOk prog gI_FRA.c:=⟨gam_cons ok_RefAdd <| gam_cons ok_Red <| gam_nil,fun _ _ h => by cases h⟩
theorem ok_RAdd:CallOk prog n_opalineref05_Add sRAdd:=by
  refine afunc_okE (g:=gI_FRA) (fu:=fun _ => 0) mixed gok_FRA h_opalineref05_Add (by kernel_rfl) ?_
  intro args t ht
  obtain ⟨x,y,rfl,hx,hy,hc,rfl⟩:=runN2_ok (F:=fun a b => (a + b) % P25) (C:=fun a b => bP a && bP b) ht
  rw [Bool.and_eq_true] at hc
  have h1:=bP_ok hc.1
  have h2:=bP_ok hc.2
  refine (FRA_ev ..).trans ?_
  have ha:=run_RefAdd hx hy
  have hr:=run_Red (x:=x + y) (by simp only [P25,M512'] at *; omega)
  simp only [eN] at ha hr
  rw [ha,Option.bind_some,hr]
  rfl
theorem run_RAdd {x y:Nat} (h1:x < P25) (h2:y < P25):rRAdd [eN x,eN y] = some ((x + y) % P25):=by
  have l1:=P_len h1
  have l2:=P_len h2
  simp only [rRAdd,sRAdd]
  exact run_N2 (fun a b => (a + b) % P25) (fun a b => bP a && bP b) (by omega) (by omega) (by rw [bP_of h1,bP_of h2]; rfl)
noncomputable abbrev gI_FRS:Cg:=g_FRS (Nat) rRP (fun t => nb t) (fun t => (nb t).length) (Nat) rRefAdd (fun t => nb t) (fun t => (nb t).length) (Nat) rRefSub (fun t => nb t) (fun t => (nb t).length) (Nat) rRed (fun t => nb t) (fun t => (nb t).length)
theorem gok_FRS:CfOk prog gI_FRS.c:=⟨gam_cons ok_RP <| gam_cons ok_RefAdd <| gam_cons ok_RefSub <| gam_cons ok_Red <| gam_nil,fun _ _ h => by cases h⟩
theorem ok_RSub:CallOk prog n_opalineref05_Sub sRSub:=by
  refine afunc_okE (g:=gI_FRS) (fu:=fun _ => 0) mixed gok_FRS h_opalineref05_Sub (by kernel_rfl) ?_
  intro args t ht
  obtain ⟨x,y,rfl,hx,hy,hc,rfl⟩:=runN2_ok (F:=fun a b => (a + P25 - b) % P25) (C:=fun a b => bP a && bP b) ht
  rw [Bool.and_eq_true] at hc
  have h1:=bP_ok hc.1
  have h2:=bP_ok hc.2
  refine (FRS_ev ..).trans ?_
  have ha:=run_RefAdd (y:=P25) hx (by rw [lenP]; omega)
  have hl:(nb (x + P25)).length ≤ 33:=nb_len_le (by simp only [P25,Nat.reducePow] at *; omega)
  have hs:=run_RefSub (x:=x + P25) (y:=y) (by omega) hy (by omega)
  have hr:=run_Red (x:=x + P25 - y) (by simp only [P25,M512'] at *; omega)
  simp only [eN] at ha hr hs
  rw [run_RP,Option.bind_some,ha,Option.bind_some,hs,Option.bind_some,hr]
  rfl
theorem run_RSub {x y:Nat} (h1:x < P25) (h2:y < P25):rRSub [eN x,eN y] = some ((x + P25 - y) % P25):=by
  have l1:=P_len h1
  have l2:=P_len h2
  simp only [rRSub,sRSub]
  exact run_N2 (fun a b => (a + P25 - b) % P25) (fun a b => bP a && bP b) (by omega) (by omega) (by rw [bP_of h1,bP_of h2]; rfl)
noncomputable abbrev gI_FRM:Cg:=g_FRM (Nat) rRefMul (fun t => nb t) (fun t => (nb t).length) (Nat) rRed (fun t => nb t) (fun t => (nb t).length)
theorem gok_FRM:CfOk prog gI_FRM.c:=⟨gam_cons ok_RefMul <| gam_cons ok_Red <| gam_nil,fun _ _ h => by cases h⟩
theorem mul_512 {x y:Nat} (h1:x < P25) (h2:y < P25):x * y < M512':=Nat.lt_of_le_of_lt (Nat.mul_le_mul (Nat.le_of_lt h1) (Nat.le_of_lt h2)) (by decide +kernel)
theorem ok_RMul:CallOk prog n_opalineref05_Mul sRMul:=by
  refine afunc_okE (g:=gI_FRM) (fu:=fun _ => 0) mixed gok_FRM h_opalineref05_Mul (by kernel_rfl) ?_
  intro args t ht
  obtain ⟨x,y,rfl,hx,hy,hc,rfl⟩:=runN2_ok (F:=fun a b => a * b % P25) (C:=fun a b => bP a && bP b) ht
  rw [Bool.and_eq_true] at hc
  have h1:=bP_ok hc.1
  have h2:=bP_ok hc.2
  refine (FRM_ev ..).trans ?_
  have ha:=run_RefMul hx hy
  have hr:=run_Red (x:=x * y) (mul_512 h1 h2)
  simp only [eN] at ha hr
  rw [ha,Option.bind_some,hr]
  rfl
theorem run_RMul {x y:Nat} (h1:x < P25) (h2:y < P25):rRMul [eN x,eN y] = some (x * y % P25):=by
  have l1:=P_len h1
  have l2:=P_len h2
  simp only [rRMul,sRMul]
  exact run_N2 (fun a b => a * b % P25) (fun a b => bP a && bP b) (by omega) (by omega) (by rw [bP_of h1,bP_of h2]; rfl)
noncomputable abbrev gI_FRo2:Cg:=g_FRo2 
theorem gok_FRo2:CfOk prog gI_FRo2.c:=⟨gam_nil,fun _ _ h => by cases h⟩
theorem ok_ROdd:CallOk prog n_opalineref05_Neg sROdd:=by
  refine afunc_okE (g:=gI_FRo2) (fu:=fun _ => 0) mixed gok_FRo2 h_opalineref05_Neg (by kernel_rfl) ?_
  intro args t ht
  obtain ⟨x,rfl,hx,rfl⟩:=runN1_ok (F:=fun a => Nat.beq (a % 2) 1) ht
  refine (FRo2_ev ..).trans ?_
  show _ = some (AV.bool (Nat.beq (x % 2) 1))
  by_cases h:(nb x).length = 0
  · have h0:=(nb_nil_iff x).1 h
    rw [decide_eq_false (by omega),cond_false,h0]; rfl
  · have hd:=nb_dg x 0 (by omega)
    rw [dg,Nat.pow_zero,Nat.div_one] at hd
    have e:(((nb x).getD 0 0).tmod 2 = 1) ↔ x % 2 = 1:=by
      rw [hd,Int.tmod_eq_emod_of_nonneg (by omega)]; omega
    rw [decide_eq_true (by omega),cond_true,decide_eq_true (by omega),cond_true,beq_dec,decide_eq_decide.2 e]
theorem run_ROdd {x:Nat} (h:(nb x).length ≤ 1048576):rROdd [eN x] = some (Nat.beq (x % 2) 1):=by
  simp only [rROdd,sROdd]
  exact run_N1 (fun a => Nat.beq (a % 2) 1) h
noncomputable abbrev gI_FRb:Cg:=g_FRb (Bool) rROdd (fun t => t) (Nat) rRSub (fun t => nb t) (fun t => (nb t).length)
theorem gok_FRb:CfOk prog gI_FRb.c:=⟨gam_cons ok_ROdd <| gam_cons ok_RSub <| gam_nil,fun _ _ h => by cases h⟩
theorem eN0:AV.s (SV.dat (TRow.ints IntKind.i64 []) 0 1) = eN 0:=rfl
theorem ok_RAbs:CallOk prog n_opalineref05_Abs sRAbs:=by
  refine afunc_okE (g:=gI_FRb) (fu:=fun _ => 0) mixed gok_FRb h_opalineref05_Abs (by kernel_rfl) ?_
  intro args t ht
  unfold sRAbs runN1c at ht
  simp only at ht
  split at ht
  · rename_i a n
    obtain ⟨h1,h2⟩:=ctrueS ht
    rw [Bool.and_eq_true] at h1
    obtain ⟨x,rfl,rfl,hx,ex⟩:=okN_ok h1.1
    have h3:=bP_ok h1.2
    rw [ex] at h3 h2
    subst h2
    refine (FRb_ev ..).trans ?_
    have ho:=run_ROdd hx
    have hs:=run_RSub (x:=0) (y:=x) (by decide) h3
    rw [← eN0] at hs
    simp only [eN] at ho hs
    rw [ho,Option.bind_some]
    show _ = some (eN (absN x))
    rw [absN]
    cases Nat.beq (x % 2) 1
    · rfl
    · rw [cond_true,hs]; rfl
  · cases ht
theorem run_RAbs {x:Nat} (h:x < P25):rRAbs [eN x] = some (absN x):=by
  have l:=P_len h
  simp only [rRAbs,sRAbs,runN1c,eN]
  rw [okN_nb (by omega),vB_nb,bP_of h]; rfl
end Go.Eng
/- field: the chapter's example. -/
namespace Go.Eng
open Go Go.Proofs
set_option linter.unusedVariables false
set_option linter.unusedSimpArgs false
set_option maxRecDepth 4000
noncomputable abbrev gI_FA1:Cg:=g_FA1 (PUnit) rTrue
theorem gok_FA1:CfOk prog gI_FA1.c:=⟨gam_cons ok_awake01 <| gam_nil,fun _ _ h => by cases h⟩
theorem ok_Awake01:CallOk prog n_opalinelaw01_Awake sTrue:=by
  refine afunc_okE (g:=gI_FA1) (fu:=fun _ => 0) mixed gok_FA1 h_opalinelaw01_Awake (by kernel_rfl) ?_
  intro args t ht
  unfold sTrue at ht
  simp only at ht
  split at ht
  · exact (FA1_ev ..).trans rfl
  · cases ht
theorem aw_inv:samF (mulF (invF (fe 2)) (fe 2)) (fe 1) = true:=by decide +kernel
theorem aw_zer:zerF (invF (fe 2)) = false:=by decide +kernel
noncomputable abbrev gI_FAw:Cg:=g_FAw (Fe) rFOf (fun t => ↑t.a) (fun t => ↑t.b) (fun t => ↑t.c) (fun t => ↑t.d) (fun t => ↑t.e) (Fe) rInv (fun t => ↑t.a) (fun t => ↑t.b) (fun t => ↑t.c) (fun t => ↑t.d) (fun t => ↑t.e) (PUnit) rTrue (Fe) rFMul (fun t => ↑t.a) (fun t => ↑t.b) (fun t => ↑t.c) (fun t => ↑t.d) (fun t => ↑t.e) (Bool) rSam (fun t => t) (Bool) rZer (fun t => t) (Fe) rFDec (fun t => ↑t.a) (fun t => ↑t.b) (fun t => ↑t.c) (fun t => ↑t.d) (fun t => ↑t.e)
theorem gok_FAw:CfOk prog gI_FAw.c:=⟨gam_cons ok_FOf <| gam_cons ok_Inv <| gam_cons ok_Awake01 <| gam_cons ok_FMul <| gam_cons ok_Sam <| gam_cons ok_Zer <| gam_cons ok_FDec <| gam_nil,fun _ _ h => by cases h⟩
def awS:Str:=[53,55,56,57,54,48,52,52,54,49,56,54,53,56,48,57,55,55,49,49,55,56,53,52,57,50,53,48,52,51,52,51,57,53,51,57,50,54,54,51,52,57,57,50,51,51,50,56,50,48,50,56,50,48,49,57,55,50,56,55,57,50,48,48,51,57,53,54,53,54,52,56,49,57,57,53,48]
theorem aw_dec:samF (fe ((decE awS).1 % P25)) (fe 1) = true:=by decide +kernel
theorem ok_awake05:CallOk prog n_opalinelaw05_awake sTrue:=by
  refine afunc_okE (g:=gI_FAw) (fu:=fun _ => 0) mixed gok_FAw h_opalinelaw05_awake (by kernel_rfl) ?_
  intro args t ht
  unfold sTrue at ht
  simp only at ht
  split at ht
  · have o1:=run_FOf (n:=1) (by decide)
    have o2:=run_FOf (n:=2) (by decide)
    have hi:=pow_ok (low:=235) (fe_ok 2) (i:=255) (fe_ok 1)
    have i1:=run_Inv (fe_ok 2)
    have m1:=run_FMul (x:=invF (fe 2)) hi (fe_ok 2)
    have s1:=run_Sam (mul_ok (x:=invF (fe 2)) hi (fe_ok 2)) (fe_ok 1)
    have z1:=run_Zer (x:=invF (fe 2)) hi
    have d1:=run_FDec (s:=awS) (by decide +kernel)
    have s2:=run_Sam (fe_ok ((decE awS).1 % P25)) (fe_ok 1)
    rw [aw_inv] at s1
    rw [aw_zer] at z1
    rw [aw_dec] at s2
    simp only [eF] at i1 m1 s1 z1 s2
    rw [show ((1:Nat):Int) = 1 from rfl] at o1
    rw [show ((2:Nat):Int) = 2 from rfl] at o2
    refine (FAw_ev ..).trans ?_
    rw [o2,Option.bind_some,i1,Option.bind_some,show rTrue [] = some () from rfl,Option.bind_some,Option.bind_some,m1,Option.bind_some,o1,Option.bind_some,s1,Option.bind_some,cond_true,z1,Option.bind_some,Bool.not_false,cond_true]
    refine (congrArg (fun o => Option.bind o _) d1).trans ?_
    rw [Option.bind_some,Option.bind_some,s2]
    rfl
  · cases ht
end Go.Eng
