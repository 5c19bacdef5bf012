/- The contracts of limb.Parse, Bytes. -/
import Derived.Test.YteipjabipehbpaaGreatPLR
namespace Go.Eng
open Go Go.Proofs
set_option linter.all false
noncomputable abbrev gI_LP:Cg:=g_LP 
theorem gok_LP:CfOk prog gI_LP.c:=⟨gam_nil,fun _ _ h=>by cases h⟩
noncomputable abbrev gI_LY:Cg:=g_LY 
theorem gok_LY:CfOk prog gI_LY.c:=⟨gam_nil,fun _ _ h=>by cases h⟩
theorem vS_take (s:Str) (i:Nat) (h:i < s.length):vS (s.take (i+1))=vS (s.take i)+256 ^ i*(s.getD i 0).toNat:=by
 unfold vS
 rw [take_succ_getD s i 0 h,List.map_append]
 have:=vB_snoc ((s.take i).map ofB) (s.getD i 0).toNat
 rw [List.length_map,List.length_take,Nat.min_eq_left (by omega)] at this
 exact this
theorem vS_lt (s:Str):vS s < 256 ^ s.length:=by
 have:=vB_lt _ (okB_map s)
 rwa [List.length_map] at this
theorem lp_set (n c i:Nat) (hi:i < 64) (hn:n < 256 ^ i) (hc:c < 256) :
  (lim 8 n).set (0+i / 8) (bOr .u64 ((lim 8 n).getD (0+i / 8) 0) (bShl .u64 (IntKind.u64.wrap (c:Int)) ((8*(i%8):Nat):Int)))=lim 8 (n+256 ^ i*c):=by
 have hr:i%8 < 8:=Nat.mod_lt _ (by decide)
 have hi':i=8*(i / 8)+i%8:=(Nat.div_add_mod i 8).symm
 generalize i / 8=q at *
 generalize i%8=r at *
 have hq:q < 8:=by omega
 have e0:(256:Nat) ^ i=18446744073709551616 ^ q*256 ^ r:=by
  rw [hi',Nat.pow_add,Nat.pow_mul]
 have hx:n / 18446744073709551616 ^ q < 256 ^ r:=by
  rw [Nat.div_lt_iff_lt_mul (Nat.pow_pos (by decide)),Nat.mul_comm,<-e0]; exact hn
 have h7:(256:Nat) ^ r <= 256 ^ 7:=Nat.pow_le_pow_right (by decide) (by omega)
 have h8:256 ^ r*c < 18446744073709551616:=by
  have:256 ^ r*c <= 256 ^ 7*255:=Nat.mul_le_mul h7 (by omega)
  omega
 have hxl:n / 18446744073709551616 ^ q%18446744073709551616=n / 18446744073709551616 ^ q:=Nat.mod_eq_of_lt (by omega)
 have e2:(2:Nat) ^ (8*r)=256 ^ r:=by rw [Nat.pow_mul]
 have hor:=Nat.two_pow_add_eq_or_of_lt (i:=8*r) (b:=n / 18446744073709551616 ^ q) (by rw [e2]; exact hx) c
 rw [e2] at hor
 have hs:256 ^ r*c+n / 18446744073709551616 ^ q < 18446744073709551616:=by
  have:256 ^ r*c+n / 18446744073709551616 ^ q < 256 ^ r*(c+1):=by rw [Nat.mul_add]; omega
  have:256 ^ r*(c+1) <= 256 ^ 7*256:=Nat.mul_le_mul h7 (by omega)
  omega
 rw [Nat.zero_add,getD_lim 8 q n hq,wu64n,Nat.mod_eq_of_lt (by omega:c < 18446744073709551616),shl64 _ _ (by omega),e2,Nat.mul_comm c,Nat.mod_eq_of_lt h8,hxl,or64 _ _ (by omega) h8,Nat.or_comm,<-hor,Nat.add_comm (256 ^ r*c)]
 have:=set_lim' 8 q n (256 ^ r*c) hq (by rw [hxl]; omega)
 rw [hxl] at this
 rw [this,e0,Nat.mul_assoc]
theorem lp_idx (i:Nat) (hi:i < 64):IntKind.i64.wrap (((i:Nat):Int).tdiv 8)=((i / 8:Nat):Int) /\ IntKind.i64.wrap ((8:Int)*((i:Nat):Int).tmod 8)=((8*(i%8):Nat):Int):=by
 have h1:((i:Nat):Int).tdiv 8=((i / 8:Nat):Int):=by rw [Int.tdiv_eq_ediv_of_nonneg (by omega)]; omega
 have h2:((i:Nat):Int).tmod 8=((i%8:Nat):Int):=by rw [Int.tmod_eq_emod_of_nonneg (by omega)]; omega
 rw [h1,h2]
 exact ⟨wi64 (by omega) (by omega),by rw [wi64 (by omega) (by omega)]; omega⟩
theorem lp_loop (s:Str) (hl:s.length <= 64) (fu:Nat):∀ (d n i:Nat),i+d=s.length->d < n ->
  lpA prog gI_LP fu LP_b1 (LP_k1 fu) n (some (LP_s1 s (s.length:Int) (i:Int) (lim 8 0) (lim 8 (vS (s.take i)))))=some (sParse.enc (vS s,0)):=by
 intro d
 induction d with
 | zero=>
  intro n i hi hn
  obtain ⟨n,rfl⟩:=Nat.exists_eq_succ_of_ne_zero (by omega:n ≠ 0)
  have e:i=s.length:=by omega
  subst e
  rw [lpA_succ,LP_r1,decide_eq_false (by omega),cond_false,kOut_some,LP_c1e0,List.take_length]; rfl
 | succ d ih=>
  intro n i hi hn
  obtain ⟨n,rfl⟩:=Nat.exists_eq_succ_of_ne_zero (by omega:n ≠ 0)
  have hb:=(s.getD i 0).toNat_lt
  have hlt:vS (s.take i) < 256 ^ i:=by
   have:=vS_lt (s.take i)
   rwa [List.length_take,Nat.min_eq_left (by omega)] at this
  obtain ⟨i1,i2⟩:=lp_idx i (by omega)
  have:=ih n (i+1) (by omega) (by omega)
  rw [vS_take s i (by omega)] at this
  rw [lpA_succ,LP_r1,decide_eq_true (by omega),cond_true,i1,i2,decide_eq_true (by omega),cond_true,decide_eq_true (by omega),cond_true,decide_eq_false (by omega),cond_false,cond_true,Int.toNat_natCast,Int.toNat_natCast,wi64 (by omega) (by omega),
   lp_set _ _ i (by omega) hlt (by omega)]
  exact this
theorem ok_Parse:CallOk prog nF83 sParse:=by
 refine afunc_okE (g:=gI_LP) (fu:=fun _=>65) mixed gok_LP hF83 (by kernel_rfl) ?_
 intro args t ht
 unfold sParse at ht
 simp only at ht
 split at ht
 ·rename_i s
  obtain ⟨h1,h2⟩:=ctrue ht
  have h1:=of_decide_eq_true h1
  cases h2
  refine (LP_ev ..).trans ?_
  by_cases h:64 < s.length
  ·rw [decide_eq_true (by omega),cond_true,show Nat.blt 64 s.length=true by rw [Nat.blt_eq]; exact h,cond_true]
   show _=some (AV.tup [.s (.pl (.agg (.ints .u64 (lim 8 0)) 8)),.s (.pl (.int .i64 5))])
   rw [lim_zero8]
  ·rw [decide_eq_false (by omega),cond_false,show Nat.blt 64 s.length=false by rw [Bool.eq_false_iff]; intro hc; rw [Nat.blt_eq] at hc; exact h hc]
   have:=lp_loop s (by omega) 65 s.length 65 0 (by omega) (by omega)
   rw [List.take_zero,show vS []=0 from rfl,lim_zero8] at this
   exact this
 ·cases ht
theorem ly_dg (x i:Nat) (hi:i < 64):IntKind.u8.wrap (bShr .u64 ((lim 8 x).getD (0+i / 8) 0) ((8*(i%8):Nat):Int))=((dg x i:Nat):Int):=by
 have hr:i%8 < 8:=Nat.mod_lt _ (by decide)
 have hi':i=8*(i / 8)+i%8:=(Nat.div_add_mod i 8).symm
 rw [dg,hi']
 generalize i / 8=q at *
 generalize i%8=r at *
 rw [show (8*q+r) / 8=q by omega,show (8*q+r)%8=r by omega,Nat.zero_add,getD_lim 8 q x (by omega),shr64 _ _ (by omega),wu8n,Nat.pow_add,Nat.pow_mul,Nat.pow_mul,<-Nat.div_div_eq_div_mul,show (256:Nat) ^ 8=18446744073709551616 from rfl,show (2:Nat) ^ 8=256 from rfl]
 generalize x / 18446744073709551616 ^ q=w
 have e:(18446744073709551616:Nat)=256 ^ r*(256*256 ^ (7 - r)):=by
  have h8:256 ^ r*(256*256 ^ (7 - r))=256 ^ 8:=by
   rw [<-Nat.mul_assoc,<-Nat.pow_succ,<-Nat.pow_add,show r+1+(7 - r)=8 by omega]
  rw [h8]
 rw [e,Nat.mod_mul_right_div_self,Nat.mod_mul_right_mod]
theorem ly_loop (x:Nat) (fu:Nat):∀ (d n i:Nat),i+d=64->d < n ->
  lpA prog gI_LY fu LY_b1 (LY_k1 fu) n (some (LY_s1 64 64 (i:Int) (lim 8 x) 64 (lo i x++List.replicate (64 - i) 0)))=some (.str (strN 64 x)):=by
 intro d
 induction d with
 | zero=>
  intro n i hi hn
  obtain ⟨n,rfl⟩:=Nat.exists_eq_succ_of_ne_zero (by omega:n ≠ 0)
  have e:i=64:=by omega
  subst e
  rw [lpA_succ,LY_r1,decide_eq_false (by omega),cond_false,kOut_some,LY_c1e0,Nat.sub_self,List.replicate_zero,List.append_nil]; rfl
 | succ d ih=>
  intro n i hi hn
  obtain ⟨n,rfl⟩:=Nat.exists_eq_succ_of_ne_zero (by omega:n ≠ 0)
  obtain ⟨i1,i2⟩:=lp_idx i (by omega)
  have:=ih n (i+1) (by omega) (by omega)
  rw [lpA_succ,LY_r1,decide_eq_true (by omega),cond_true,i1,i2,decide_eq_true (by omega),cond_true,decide_eq_false (by omega),cond_false,decide_eq_true (by omega),cond_true,Int.toNat_natCast,Int.toNat_natCast,wi64 (by omega) (by omega),ly_dg x i (by omega),lo_set_step x 64 i (by omega)]
  exact this
theorem ok_Bytes:CallOk prog nF165 sBytes:=by
 refine afunc_okE (g:=gI_LY) (fu:=fun _=>65) mixed gok_LY hF165 (by kernel_rfl) ?_
 intro args t ht
 obtain ⟨a,rfl,ha,rfl⟩:=run1_ok (F:=fun a=>strN 64 (val a)) ht
 refine (LY_ev ..).trans ?_
 have:=ly_loop (val a) 65 64 65 0 (by omega) (by decide)
 rw [lim8_val ha] at this
 exact this
theorem run_Parse {s:Str} (h:s.length <= 1099511627776):rParse [.str s]=some (cond (Nat.blt 64 s.length) (0,5) (vS s,0)):=by
 show cond (decide (s.length <= 1099511627776)) _ none=_
 rw [decide_eq_true h]; rfl
theorem run_Bytes {a:List Int} (ha:ok8 a=true):rBytes [W8 a]=some (strN 64 (val a)):=run1_some (fun a=>strN 64 (val a)) ha
end Go.Eng
