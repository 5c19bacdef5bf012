import Derived.Test.YteipjabipehbpaaGreatPLT2
import Derived.Test.YteipjabipehbpaaGreatZF1
namespace Go.Eng
open Go.IntKind (u64 i64 u8)
noncomputable section
open Go Go.Proofs
set_option linter.all false
set_option maxRecDepth 4000
abbrev gI_FWi:Cg:=g_FWi (Int) rOf (fun t=>[t,0,0,0,0,0,0,0]) (Nat) rShift (fun t=>lim 8 t) (Nat × Bool) rSub (fun t=>lim 8 t.fst) (fun t=>t.snd) (Nat × Nat × Int) rDiv (fun t=>lim 8 t.fst) (fun t=>lim 8 t.snd.fst) (fun t=>t.snd.snd)
theorem gok_FWi:CfOk prog gI_FWi.c:=⟨gam_cons ok_Of <| gam_cons ok_Shift <| gam_cons ok_Sub <| gam_cons ok_Div <| gam_nil,fun _ _ h=>by cases h⟩
theorem lim8_hd (n:Nat):(lim 8 n).getD 0 0=((n%18446744073709551616:Nat):Int):=by
 have:=getD_lim 8 0 n (by omega)
 rwa [Nat.pow_zero,Nat.div_one] at this
theorem mskL (n:Nat):bAnd .u64 ((lim 8 n).getD 0 0) 2251799813685247=((n%2251799813685248:Nat):Int):=by
 rw [lim8_hd,msk _ (Nat.mod_lt _ (by decide))]
 congr 1
 omega
theorem shN {r k:Nat} (h:k < 512) (hk:0 < k):shiftN r (-(k:Int))=r / 2 ^ k:=by
 unfold shiftN
 rw [decide_eq_false (by omega),decide_eq_false (by omega),Bool.false_or,cond_false,decide_eq_true (by omega),cond_true,Int.neg_neg,Int.toNat_natCast]
theorem ok_Wide:CallOk prog nF85 sWide:=by
 refine afunc_okE (g:=gI_FWi) (fu:=fun _=>6) mixed gok_FWi hF85 (by kernel_rfl) ?_
 intro args t ht
 obtain ⟨a,rfl,ha,rfl⟩:=run1_ok (F:=fun a=>fe (val a%P25)) ht
 refine (FWi_ev ..).trans ?_
 have s1:rShift [AV.agg (TRow.ints u64 [1,0,0,0,0,0,0,0]) 8,AV.int i64 255]=some 57896044618658097711785492504343953926634992332820282019728792003956564819968:=(run_Shift (b:=[1,0,0,0,0,0,0,0]) (by decide) 255).trans (by decide +kernel)
 have s2:rSub [AV.agg (TRow.ints u64 (lim 8 57896044618658097711785492504343953926634992332820282019728792003956564819968)) 8,AV.agg (TRow.ints u64 [19,0,0,0,0,0,0,0]) 8]=some (M512+P25,true) :=
  (run_Sub (ok8_lim _) (b:=[19,0,0,0,0,0,0,0]) (by decide)).trans (by decide +kernel)
 have s3:rDiv [AV.agg (TRow.ints u64 a) 8,AV.agg (TRow.ints u64 (lim 8 (M512+P25))) 8]=some (val a / P25,val a%P25,0):=by
  refine (run_Div ha (ok8_lim _)).trans ?_
  have:val (lim 8 (M512+P25))=P25:=by decide +kernel
  rw [divW,this,if_neg (by decide)]
 have o1:rOf [AV.int u64 1]=some 1:=rfl
 have o2:rOf [AV.int u64 19]=some 19:=rfl
 rw [o1,Option.bind_some,s1,Option.bind_some,o2,Option.bind_some,s2,Option.bind_some,s3,Option.bind_some]
 show lpA prog gI_FWi 6 FWi_b1 _ 6 (some _)=_
 dsimp only
 have hr:val a%P25 < P25:=modP_lt _
 generalize val a%P25=r at *
 have hv:val (lim 8 r)=r:=by
  rw [val_lim8]; exact Nat.mod_eq_of_lt (Nat.lt_trans hr (by decide))
 have h:∀ k:Nat,0 < k->k < 512->rShift [AV.agg (TRow.ints u64 (lim 8 r)) 8,AV.int i64 (-(k:Int))]=some (r / 2 ^ k):=fun k h0 h1=>by
  refine (run_Shift (ok8_lim r) _).trans ?_
  rw [hv,shN h1 h0]
 have h0:rShift [AV.agg (TRow.ints u64 (lim 8 r)) 8,AV.int i64 0]=some r:=by
  refine (run_Shift (ok8_lim r) _).trans ?_
  rw [hv]; simp [shiftN]
 have t1:rShift [AV.agg (TRow.ints u64 (lim 8 r)) 8,AV.int i64 (-51)]=some (r / 2251799813685248):=h 51 (by omega) (by omega)
 have t2:rShift [AV.agg (TRow.ints u64 (lim 8 r)) 8,AV.int i64 (-102)]=some (r / 5070602400912917605986812821504):=h 102 (by omega) (by omega)
 have t3:rShift [AV.agg (TRow.ints u64 (lim 8 r)) 8,AV.int i64 (-153)]=some (r / 11417981541647679048466287755595961091061972992):=h 153 (by omega) (by omega)
 have t4:rShift [AV.agg (TRow.ints u64 (lim 8 r)) 8,AV.int i64 (-204)]=some (r / 25711008708143844408671393477458601640355247900524685364822016):=h 204 (by omega) (by omega)
 rw [lpA_succ,FWi_m0,h0,Option.bind_some,mskL,lpA_succ,FWi_m1,t1,Option.bind_some,mskL,lpA_succ,FWi_m2,t2,Option.bind_some,mskL,lpA_succ,FWi_m3,t3,Option.bind_some,mskL,lpA_succ,FWi_m4,t4,Option.bind_some,mskL,lpA_succ,FWi_m5,kOut_some,FWi_c1e0]
 rfl
theorem run_Wide {a:List Int} (h:ok8 a=true):rWide [W8 a]=some (fe (val a%P25)):=by
 simp only [rWide,sWide]
 exact run1_some (fun a=>fe (val a%P25)) h
abbrev gI_FDe:Cg:=g_FDe (Nat × Int) rDecimal (fun t=>lim 8 t.fst) (fun t=>t.snd) (Fe) rWide (fun t=>↑t.a) (fun t=>↑t.b) (fun t=>↑t.c) (fun t=>↑t.d) (fun t=>↑t.e)
theorem gok_FDe:CfOk prog gI_FDe.c:=⟨gam_cons ok_Decimal <| gam_cons ok_Wide <| gam_nil,fun _ _ h=>by cases h⟩
theorem decE_lt (s:Str):(decE s).1 < M512:=by
 unfold decE
 cases decOk s
 ·exact M512_pos
 ·rw [cond_true]
  cases h:Nat.blt (decV 0 s) M512
  ·exact M512_pos
  ·exact Nat.blt_eq.mp h
theorem ok_FDec:CallOk prog nF84 sFDec:=by
 refine afunc_okE (g:=gI_FDe) (fu:=fun _=>0) mixed gok_FDe hF84 (by kernel_rfl) ?_
 intro args t ht
 unfold sFDec at ht
 simp only at ht
 split at ht
 ·rename_i s
  obtain ⟨h1,h2⟩:=ctrueS ht
  subst h2
  refine (FDe_ev ..).trans ?_
  have c:=run_Wide (ok8_lim (decE s).1)
  rw [val_lim8,Nat.mod_eq_of_lt (decE_lt s),W8] at c
  rw [run_Decimal (of_decide_eq_true h1),Option.bind_some]
  show (rWide [AV.agg (TRow.ints u64 (lim 8 (decE s).1)) 8]).bind _=_
  rw [c]; rfl
 ·cases ht
theorem run_FDec {s:Str} (h:s.length <= 1099511627776):rFDec [.str s]=some (fe ((decE s).1%P25)):=by
 simp only [rFDec,sFDec]
 rw [decide_eq_true h]; rfl
theorem ok32_ok {a:List Int} (h:ok32 a=true):a.length=32 /\ okB a=true:=by
 simp only [ok32,Bool.and_eq_true] at h
 exact ⟨Nat.eq_of_beq_eq_true h.1,h.2⟩
theorem runB1_ok {T:Type} {F:List Int->T} {args:List AV} {t:T} (h:runB1 F args=some t):∃ a,args=[eB32 a] /\ ok32 a=true /\ t=F a:=by
 unfold runB1 at h
 split at h
 ·obtain ⟨h1,h2⟩:=ctrueS h
  exact ⟨_,rfl,h1,h2.symm⟩
 ·cases h
theorem run_B1 {T:Type} (F:List Int->T) {a:List Int} (h:ok32 a=true):runB1 F [eB32 a]=some (F a):=by
 simp only [runB1,eB32]
 rw [h]; rfl
theorem and127:∀ n:Fin 256,bAnd u8 (n.1:Int) 127=((n.1%128:Nat):Int):=by decide +kernel
theorem low255 {a:List Int} (h:ok32 a=true):okB (a.set 31 (bAnd .u8 (a.getD 31 0) 127))=true /\ vB (a.set 31 (bAnd .u8 (a.getD 31 0) 127))=vB a%T255:=by
 obtain ⟨hl,hb⟩:=ok32_ok h
 obtain ⟨g0,g1⟩:=okB_getD hb 31
 obtain ⟨n,hn⟩:=Int.eq_ofNat_of_zero_le g0
 have hn':n < 256:=by omega
 rw [hn,show bAnd .u8 (n:Int) 127=((n%128:Nat):Int) from and127 ⟨n,hn'⟩]
 refine ⟨okB_set a 31 (n%128) hb (by omega),?_⟩
 have h1:=vB_set a 31 (n%128) (by omega) hb
 rw [hn,Int.toNat_natCast] at h1
 have h2:=vB_lt a hb
 rw [hl] at h2
 have h3:n=vB a / 256 ^ 31:=by
  have e:=getD_lo 32 (vB a) 31 (by omega)
  rw [<-hl,lo_vB a hb,hn] at e
  have:=Int.ofNat.inj e
  rw [this]
  exact Nat.mod_eq_of_lt (by simp only [Nat.reducePow] at h2 ⊢; omega)
 simp only [Nat.reducePow,T255] at *
 omega
abbrev gI_FLo:Cg:=g_FLo (Nat × Int) rParse (fun t=>lim 8 t.fst) (fun t=>t.snd) (Fe) rWide (fun t=>↑t.a) (fun t=>↑t.b) (fun t=>↑t.c) (fun t=>↑t.d) (fun t=>↑t.e)
theorem gok_FLo:CfOk prog gI_FLo.c:=⟨gam_cons ok_Parse <| gam_cons ok_Wide <| gam_nil,fun _ _ h=>by cases h⟩
theorem ok_Loose:CallOk prog nF37 sLoose:=by
 refine afunc_okE (g:=gI_FLo) (fu:=fun _=>0) mixed gok_FLo hF37 (by kernel_rfl) ?_
 intro args t ht
 obtain ⟨a,rfl,ha,rfl⟩:=runB1_ok (F:=looF) ht
 obtain ⟨hl,hb⟩:=ok32_ok ha
 obtain ⟨k1,k2⟩:=low255 ha
 refine (FLo_ev ..).trans ?_
 have hlen:(a.set 31 (bAnd .u8 (a.getD 31 0) 127)).length=32:=by rw [List.length_set,hl]
 rw [List.drop_zero,List.take_of_length_le (by omega),run_Parse (by rw [List.length_map,hlen]; omega),Option.bind_some,List.length_map,hlen,show Nat.blt 64 32=false from rfl,cond_false,vS_b8 k1,k2]
 have c:=run_Wide (ok8_lim (vB a%T255))
 rw [val_lim8,Nat.mod_eq_of_lt (a:=vB a%T255) (b:=M512) (Nat.lt_trans (Nat.mod_lt _ (by decide)) (by decide)),W8] at c
 show (rWide [AV.agg (TRow.ints u64 (lim 8 (vB a%T255))) 8]).bind _=_
 rw [c]; rfl
theorem run_Loose {a:List Int} (h:ok32 a=true):rLoose [eB32 a]=some (looF a):=by
 simp only [rLoose,sLoose]
 exact run_B1 looF h
abbrev gI_FBy:Cg:=g_FBy (Fe) rFWhole (fun t=>↑t.a) (fun t=>↑t.b) (fun t=>↑t.c) (fun t=>↑t.d) (fun t=>↑t.e)
theorem gok_FBy:CfOk prog gI_FBy.c:=⟨gam_cons ok_FWhole <| gam_nil,fun _ _ h=>by cases h⟩
theorem orB8 (x y:Nat) (hx:x < 256) (hy:y < 256):bOr .u8 (x:Int) (y:Int)=((x ||| y:Nat):Int):=by
 unfold bOr
 have e:(BitVec.ofInt (IntKind.bits .u8) (x:Int) ||| BitVec.ofInt (IntKind.bits .u8) (y:Int)).toNat=x ||| y:=by
  show (BitVec.ofInt 8 (x:Int) ||| BitVec.ofInt 8 (y:Int)).toNat=x ||| y
  rw [BitVec.toNat_or,BitVec.ofInt_natCast,BitVec.ofInt_natCast,BitVec.toNat_ofNat,BitVec.toNat_ofNat,Nat.mod_eq_of_lt (by omega),Nat.mod_eq_of_lt (by omega)]
 rw [e,wu8n,Nat.mod_eq_of_lt]
 exact Nat.or_lt_two_pow (n:=8) hx hy
theorem shlB:∀ (b:Fin 2) (r:Fin 8),bShl .u8 (u8.wrap (b.1:Int)) (r.1:Int)=((b.1*2 ^ r.1:Nat):Int):=by decide +kernel
theorem p256 (q:Nat):256 ^ q=2 ^ (8*q):=by rw [show 256=2 ^ 8 from rfl,<-Nat.pow_mul]
theorem or_bit (x b r:Nat) (hx:x < 2 ^ r) (hb:b < 2):x ||| b*2 ^ r=x+b*2 ^ r:=by
 rcases (by omega:b=0 ∨ b=1) with rfl | rfl
 ·simp
 ·rw [Nat.one_mul]; exact or_pow x r hx
theorem lo_inj {a b:List Int} (ha:okB a=true) (hb:okB b=true) (hl:a.length=b.length) (h:vB a=vB b):a=b:=by
 rw [<-lo_vB a ha,<-lo_vB b hb,hl,h]
theorem by_step (n t:Nat) (ht:t < 255):(lo 32 (n%2 ^ t)).set (t / 8) (bOr .u8 ((lo 32 (n%2 ^ t)).getD (t / 8) 0) (bShl .u8 (u8.wrap ((n / 2 ^ t%2:Nat):Int)) ((t%8:Nat):Int)))=lo 32 (n%2 ^ (t+1)):=by
 have hb:n / 2 ^ t%2 < 2:=Nat.mod_lt _ (by decide)
 generalize hbit:n / 2 ^ t%2=b at *
 have e1:n%2 ^ (t+1)=n%2 ^ t+b*2 ^ t:=by
  rw [Nat.pow_succ,Nat.mod_mul,hbit,Nat.mul_comm]
 have hm:n%2 ^ t < 2 ^ t:=Nat.mod_lt _ (Nat.two_pow_pos t)
 rw [e1]
 generalize n%2 ^ t=m at *
 have hs:2 ^ t=2 ^ (8*(t / 8))*2 ^ (t%8):=by rw [<-Nat.pow_add]; congr 1; omega
 have hq:m / 256 ^ (t / 8) < 2 ^ (t%8):=by
  rw [p256,Nat.div_lt_iff_lt_mul (Nat.two_pow_pos _),Nat.mul_comm,<-hs]; exact hm
 have h8:2 ^ (t%8) <= 128:=Nat.pow_le_pow_right (n:=2) (by omega) (by omega:t%8 <= 7)
 have hbr:b*2 ^ (t%8) <= 128:=by
  rcases (by omega:b=0 ∨ b=1) with rfl | rfl <;> omega
 have e0:bShl .u8 (u8.wrap (b:Int)) ((t%8:Nat):Int)=((b*2 ^ (t%8):Nat):Int):=shlB ⟨b,hb⟩ ⟨t%8,by omega⟩
 rw [getD_lo 32 m (t / 8) (by omega),Nat.mod_eq_of_lt (a:=m / 256 ^ (t / 8)) (by omega),e0,orB8 _ _ (by omega) (by omega),or_bit _ _ _ hq hb]
 have pm:2 ^ t < 2 ^ 255:=Nat.pow_lt_pow_right (by decide) ht
 have hbt:b*2 ^ t <= 2 ^ t:=by
  rcases (by omega:b=0 ∨ b=1) with rfl | rfl <;> omega
 refine lo_inj (okB_set _ _ _ (okB_lo ..) (by omega)) (okB_lo ..) (by rw [List.length_set,length_lo,length_lo]) ?_
 have h1:=vB_set (lo 32 m) (t / 8) (m / 256 ^ (t / 8)+b*2 ^ (t%8)) (by rw [length_lo]; omega) (okB_lo ..)
 rw [getD_lo 32 m (t / 8) (by omega),Int.toNat_natCast,Nat.mod_eq_of_lt (a:=m / 256 ^ (t / 8)) (by omega),vB_lo,Nat.mod_eq_of_lt (a:=m) (by simp only [Nat.reducePow] at pm ⊢; omega),Nat.mul_add] at h1
 rw [vB_lo,Nat.mod_eq_of_lt (a:=m+b*2 ^ t) (by simp only [Nat.reducePow] at pm ⊢; omega)]
 have e2:256 ^ (t / 8)*(b*2 ^ (t%8))=b*2 ^ t:=by
  rw [hs,p256,Nat.mul_left_comm]
 rw [e2] at h1
 omega
theorem bit_at (n i k:Nat) (hk:k < 51):bAnd .u64 (bShr .u64 ((n / 2 ^ (51*i)%2251799813685248:Nat):Int) (k:Int)) 1=((n / 2 ^ (51*i+k)%2:Nat):Int):=by
 rw [shr64 _ k (by omega),and1 _ (Nat.lt_of_le_of_lt (Nat.div_le_self ..) (Nat.lt_trans (Nat.mod_lt _ (by decide)) (by decide)))]
 congr 1
 rw [show (2251799813685248:Nat)=2 ^ k*2 ^ (51 - k) by rw [<-Nat.pow_add,show k+(51 - k)=51 by omega],Nat.mod_mul_right_div_self,Nat.div_div_eq_div_mul,<-Nat.pow_add]
 exact Nat.mod_mod_of_dvd _ (Nat.dvd_trans (by decide:2 ∣ 2 ^ 1) (Nat.pow_dvd_pow 2 (by omega)))
theorem by_in {β:Type} (n:Nat) (xs zs:List Int) (fu:Nat) (G:Option St->Option β) (H:Ex->Option St->Option β) (i:Nat) (hi:i < 5):∀ (d m k:Nat),k+d=51->d < m ->
  lpA prog gI_FBy fu FBy_b2 (FBy_k2 _ rFWhole (fun t=>(t.a:Int)) (fun t=>(t.b:Int)) (fun t=>(t.c:Int)) (fun t=>(t.d:Int)) (fun t=>(t.e:Int)) fu G H) m
   (some (FBy_s2 (i:Int) ((n / 2 ^ (51*i)%2251799813685248:Nat):Int) xs (i:Int) (k:Int) zs (lo 32 (n%2 ^ (51*i+k)))))=G (some (FBy_s1 xs ((i+1:Nat):Int) zs (lo 32 (n%2 ^ (51*(i+1)))))):=by
 intro d
 induction d with
 | zero=>
  intro m k hk hm
  obtain ⟨m,rfl⟩:=Nat.exists_eq_succ_of_ne_zero (by omega:m ≠ 0)
  have e:k=51:=by omega
  subst e
  rw [lpA_succ,FBy_r2,decide_eq_false (by omega),cond_false,kOut_some,FBy_c2e2,wi64 (by omega) (by omega)]
  rfl
 | succ d ih=>
  intro m k hk hm
  obtain ⟨m,rfl⟩:=Nat.exists_eq_succ_of_ne_zero (by omega:m ≠ 0)
  have h:=ih m (k+1) (by omega) (by omega)
  have e1:i64.wrap (i64.wrap (51*(i:Int))+(k:Int))=((51*i+k:Nat):Int):=by
   rw [wi64 (n:=51*(i:Int)) (by omega) (by omega),wi64 (by omega) (by omega)]; omega
  have e2:i64.wrap ((((51*i+k:Nat):Int)).tdiv 8)=(((51*i+k) / 8:Nat):Int):=by
   rw [Int.tdiv_eq_ediv_of_nonneg (by omega),wi64 (by omega) (by omega)]; omega
  have e3:(((51*i+k:Nat):Int)).tmod 8=(((51*i+k)%8:Nat):Int):=by
   rw [Int.tmod_eq_emod_of_nonneg (by omega)]; omega
  rw [lpA_succ,FBy_r2,decide_eq_true (by omega),cond_true,e1,e2,e3,decide_eq_true (by omega),cond_true,decide_eq_false (by omega),cond_false,decide_eq_false (by omega),cond_false,cond_true,Int.toNat_natCast,Nat.zero_add,bit_at n i k (by omega),by_step n (51*i+k) (by omega),wi64 (by omega) (by omega)]
  exact h
theorem by_out (n:Nat) (zs:List Int) (fu:Nat) (hfu:51 < fu):∀ (d m i:Nat),i+d=5->d < m ->
  lpA prog gI_FBy fu FBy_b1 (FBy_k1 _ rFWhole (fun t=>(t.a:Int)) (fun t=>(t.b:Int)) (fun t=>(t.c:Int)) (fun t=>(t.d:Int)) (fun t=>(t.e:Int)) fu) m
   (some (FBy_s1 [((fe n).a:Int),(fe n).b,(fe n).c,(fe n).d,(fe n).e] (i:Int) zs (lo 32 (n%2 ^ (51*i)))))=some (eB32 (lo 32 (n%2 ^ 255))):=by
 intro d
 induction d with
 | zero=>
  intro m i hi hm
  obtain ⟨m,rfl⟩:=Nat.exists_eq_succ_of_ne_zero (by omega:m ≠ 0)
  have e:i=5:=by omega
  subst e
  rw [lpA_succ,FBy_r1,decide_eq_false (by omega),cond_false,kOut_some,FBy_c1e0]; rfl
 | succ d ih=>
  intro m i hi hm
  obtain ⟨m,rfl⟩:=Nat.exists_eq_succ_of_ne_zero (by omega:m ≠ 0)
  have h:=ih m (i+1) (by omega) (by omega)
  rw [lpA_succ,FBy_r1,decide_eq_true (by omega),cond_true,decide_eq_true (by omega),cond_true,Int.toNat_natCast]
  have g:=by_in n [((fe n).a:Int),(fe n).b,(fe n).c,(fe n).d,(fe n).e] zs fu (lpA prog gI_FBy fu FBy_b1 (FBy_k1 _ rFWhole (fun t=>(t.a:Int)) (fun t=>(t.b:Int)) (fun t=>(t.c:Int)) (fun t=>(t.d:Int)) (fun t=>(t.e:Int)) fu) m)
   (kOut (FBy_k1 _ rFWhole (fun t=>(t.a:Int)) (fun t=>(t.b:Int)) (fun t=>(t.c:Int)) (fun t=>(t.d:Int)) (fun t=>(t.e:Int)) fu)) i (by omega) 51 fu 0 (by omega) hfu
  rw [Nat.add_zero] at g
  have hg:([((fe n).a:Int),(fe n).b,(fe n).c,(fe n).d,(fe n).e]:List Int).getD i 0=((n / 2 ^ (51*i)%2251799813685248:Nat):Int):=by
   have hi5:i < 5:=by omega
   clear hi h g ih
   match i,hi5 with
   | n+5,h=>exact absurd h (by omega)
   | 0,_=>simp [fe]
   | 1,_=>rfl
   | 2,_=>rfl
   | 3,_=>rfl
   | 4,_=>rfl
  rw [hg]
  exact g.trans h
theorem ok_FBytes:CallOk prog nF56 sFBytes:=by
 refine afunc_okE (g:=gI_FBy) (fu:=fun _=>60) mixed gok_FBy hF56 (by kernel_rfl) ?_
 intro args t ht
 obtain ⟨x,rfl,hx,rfl⟩:=runF1_ok (F:=fun x=>lo 32 (fv x%P25)) ht
 have c:=run_FWhole hx
 simp only [eF] at c
 refine (FBy_ev ..).trans ?_
 rw [c,Option.bind_some]
 have h:=by_out (fv x%P25) (List.replicate 32 0) 60 (by omega) 5 60 0 (by omega) (by omega)
 rw [Nat.mod_eq_of_lt (a:=fv x%P25) (b:=2 ^ 255) (Nat.lt_trans (modP_lt _) (by decide +kernel)),Nat.mul_zero,Nat.pow_zero,Nat.mod_one] at h
 exact h
theorem run_FBytes {x:Fe} (h:fOk x):rFBytes [eF x]=some (lo 32 (fv x%P25)):=by
 simp only [rFBytes,sFBytes]
 exact run_F1 (fun x=>lo 32 (fv x%P25)) h
theorem loo_val (a:List Int):fv (looF a)=vB a%T255%P25:=fv_fe (Nat.lt_trans (modP_lt _) (by decide))
abbrev gI_FPr:Cg:=g_FPr (Fe) rLoose (fun t=>↑t.a) (fun t=>↑t.b) (fun t=>↑t.c) (fun t=>↑t.d) (fun t=>↑t.e) (List Int) rFBytes (fun t=>t)
theorem gok_FPr:CfOk prog gI_FPr.c:=⟨gam_cons ok_Loose <| gam_cons ok_FBytes <| gam_nil,fun _ _ h=>by cases h⟩
theorem loo_same {a:List Int} (ha:ok32 a=true):(lo 32 (fv (looF a)%P25)=a) ↔ vB a < P25:=by
 obtain ⟨hl,hb⟩:=ok32_ok ha
 have h2:=vB_lt a hb
 rw [hl] at h2
 rw [loo_val,Nat.mod_mod]
 constructor
 ·intro h
  have:=congrArg vB h
  rw [vB_lo,Nat.mod_eq_of_lt (Nat.lt_trans (modP_lt _) (by decide +kernel))] at this
  rw [<-this]; exact modP_lt _
 ·intro h
  rw [Nat.mod_eq_of_lt (Nat.lt_trans h (by decide)),Nat.mod_eq_of_lt h,<-hl]
  exact lo_vB a hb
theorem ok_FParse:CallOk prog nF58 sFParse:=by
 refine afunc_okE (g:=gI_FPr) (fu:=fun _=>0) mixed gok_FPr hF58 (by kernel_rfl) ?_
 intro args t ht
 obtain ⟨a,rfl,ha,rfl⟩:=runB1_ok (F:=parF) ht
 have c:=run_Loose ha
 have c2:=run_FBytes (fe_ok (vB a%T255%P25))
 simp only [eB32] at c
 simp only [eF] at c2
 refine (FPr_ev ..).trans ?_
 rw [c,Option.bind_some]
 show ((rFBytes [AV.agg (TRow.ints u64 [((fe (vB a%T255%P25)).a:Int),(fe (vB a%T255%P25)).b,(fe (vB a%T255%P25)).c,(fe (vB a%T255%P25)).d,(fe (vB a%T255%P25)).e]) 5]).bind fun (t_1:List Int)=>_)=_
 rw [c2,Option.bind_some]
 show _=some (sFParse.enc (parF a))
 by_cases h:vB a < P25
 ·have hs:lo 32 (fv (fe (vB a%T255%P25))%P25)=a:=(loo_same ha).2 h
  have hp:parF a=(fe (vB a),0):=by rw [parF,Nat.blt_eq.mpr h]; rfl
  have hf:looF a=fe (vB a):=by
   rw [looF,Nat.mod_eq_of_lt (a:=vB a) (Nat.lt_trans h (by decide)),Nat.mod_eq_of_lt h]
  rw [decide_eq_true hs,hp,Bool.not_true,cond_false,hf]
  rfl
 ·have hs:¬ lo 32 (fv (fe (vB a%T255%P25))%P25)=a:=fun e=>h ((loo_same ha).1 e)
  have hp:parF a=(f0,7):=by
   rw [parF]
   cases hb:Nat.blt (vB a) P25
   ·rfl
   ·exact absurd (Nat.blt_eq.mp hb) h
  rw [decide_eq_false hs,hp]
  rfl
theorem run_FParse {a:List Int} (h:ok32 a=true):rFParse [eB32 a]=some (parF a):=by
 simp only [rFParse,sFParse]
 exact run_B1 parF h
section
variable (T0:Type) (R0:List AV->Option T0) (f0a f0b f0c f0d f0e:T0->Int) (T1:Type) (R1:List AV->Option T1) (f1a f1b f1c f1d f1e:T1->Int) (T2:Type) (R2:List AV->Option T2) (T3:Type) (R3:List AV->Option T3) (f3a f3b f3c f3d f3e:T3->Int) (T4:Type) (R4:List AV->Option T4) (f4a:T4->Bool) (T5:Type) (R5:List AV->Option T5) (f5a:T5->Bool) (T6:Type) (R6:List AV->Option T6) (f6a f6b f6c f6d f6e:T6->Int)
def g_FAw:Cg:=⟨⟨gam [(nF35,⟨R0,fun t=>AV.agg (.ints .u64 [(f0a t),(f0b t),(f0c t),(f0d t),(f0e t)]) 5⟩),(nF110,⟨R1,fun t=>AV.agg (.ints .u64 [(f1a t),(f1b t),(f1c t),(f1d t),(f1e t)]) 5⟩),(nF118,⟨R2,fun t=>AV.bool (true)⟩),(nF39,⟨R3,fun t=>AV.agg (.ints .u64 [(f3a t),(f3b t),(f3c t),(f3d t),(f3e t)]) 5⟩),(nF90,⟨R4,fun t=>AV.bool (f4a t)⟩),(nF59,⟨R5,fun t=>AV.bool (f5a t)⟩),(nF84,⟨R6,fun t=>AV.agg (.ints .u64 [(f6a t),(f6b t),(f6c t),(f6d t),(f6e t)]) 5⟩)],[],noE⟩,[]⟩
theorem FAw_ev (fu:Nat):afunc prog fF178 (g_FAw T0 R0 f0a f0b f0c f0d f0e T1 R1 f1a f1b f1c f1d f1e T2 R2 T3 R3 f3a f3b f3c f3d f3e T4 R4 f4a T5 R5 f5a T6 R6 f6a f6b f6c f6d f6e) fu []=(R0 [.int .u64 (2:Int)]).bind fun t=>(R1 [.agg (.ints .u64 [f0a t,f0b t,f0c t,f0d t,f0e t]) 5]).bind fun t=>(R2 []).bind fun t_1=>(R0 [.int .u64 (2:Int)]).bind fun t_2=>(R3 [.agg (.ints .u64 [f1a t,f1b t,f1c t,f1d t,f1e t]) 5,.agg (.ints .u64 [f0a t_2,f0b t_2,f0c t_2,f0d t_2,f0e t_2]) 5]).bind fun t_3=>(R0 [.int .u64 (1:Int)]).bind fun t_4=>(R4 [.agg (.ints .u64 [f3a t_3,f3b t_3,f3c t_3,f3d t_3,f3e t_3]) 5,.agg (.ints .u64 [f0a t_4,f0b t_4,f0c t_4,f0d t_4,f0e t_4]) 5]).bind fun t_5=>bif f4a t_5 then (R5 [.agg (.ints .u64 [f1a t,f1b t,f1c t,f1d t,f1e t]) 5]).bind fun t=>bif !f5a t then (R6 [.str ([(53:UInt8),55,56,57,54,48,52,52,54,49,56,54,53,56,48,57,55,55,49,49,55,56,53,52,57,50,53,48,52,51,52,51,57,53,51,57,50,54].append [(54:UInt8),51,52,57,57,50,51,51,50,56,50,48,50,56,50,48,49,57,55,50,56,55,57,50,48,48,51,57,53,54,53,54,52,56,49,57,57,53,48])]).bind fun t=>(R0 [.int .u64 (1:Int)]).bind fun t_6=>(R4 [.agg (.ints .u64 [f6a t,f6b t,f6c t,f6d t,f6e t]) 5,.agg (.ints .u64 [f0a t_6,f0b t_6,f0c t_6,f0d t_6,f0e t_6]) 5]).bind fun t=>some (AV.bool (f4a t)) else some (AV.bool false) else some (AV.bool false):=by kernel_rfl
end
section
variable (T0:Type) (R0:List AV->Option T0)
def g_FA1:Cg:=⟨⟨gam [(nF147,⟨R0,fun t=>AV.bool (true)⟩)],[],noE⟩,[]⟩
theorem FA1_ev (fu:Nat):afunc prog fF118 (g_FA1 T0 R0) fu []=(R0 []).bind fun t=>some (AV.bool true):=by kernel_rfl
end
set_option maxRecDepth 4000
theorem lo_split (k:Nat):∀ (j x:Nat),lo (j+k) x=lo j x++lo k (x / 256 ^ j):=by
 intro j
 induction j with
 | zero=>intro x; simp [lo]
 | succ j ih=>
  intro x
  rw [show j+1+k=(j+k)+1 by omega,lo,lo,ih,List.cons_append,Nat.div_div_eq_div_mul,Nat.pow_succ,Nat.mul_comm 256]
set_option maxRecDepth 4000
abbrev gI_FA1:Cg:=g_FA1 (PUnit) rTrue
theorem gok_FA1:CfOk prog gI_FA1.c:=⟨gam_cons ok_awake01 <| gam_nil,fun _ _ h=>by cases h⟩
theorem ok_Awake01:CallOk prog nF118 sTrue:=by
 refine afunc_okE (g:=gI_FA1) (fu:=fun _=>0) mixed gok_FA1 hF118 (by kernel_rfl) ?_
 intro args t ht
 unfold sTrue at ht
 simp only at ht
 split at ht
 ·exact (FA1_ev ..).trans rfl
 ·cases ht
theorem aw_inv:samF (mulF (invF (fe 2)) (fe 2)) (fe 1)=true:=by decide +kernel
theorem aw_zer:zerF (invF (fe 2))=false:=by decide +kernel
abbrev gI_FAw:Cg:=g_FAw (Fe) rFOf (fun t=>↑t.a) (fun t=>↑t.b) (fun t=>↑t.c) (fun t=>↑t.d) (fun t=>↑t.e) (Fe) rInv (fun t=>↑t.a) (fun t=>↑t.b) (fun t=>↑t.c) (fun t=>↑t.d) (fun t=>↑t.e) (PUnit) rTrue (Fe) rFMul (fun t=>↑t.a) (fun t=>↑t.b) (fun t=>↑t.c) (fun t=>↑t.d) (fun t=>↑t.e) (Bool) rSam (fun t=>t) (Bool) rZer (fun t=>t) (Fe) rFDec (fun t=>↑t.a) (fun t=>↑t.b) (fun t=>↑t.c) (fun t=>↑t.d) (fun t=>↑t.e)
theorem gok_FAw:CfOk prog gI_FAw.c:=⟨gam_cons ok_FOf <| gam_cons ok_Inv <| gam_cons ok_Awake01 <| gam_cons ok_FMul <| gam_cons ok_Sam <| gam_cons ok_Zer <| gam_cons ok_FDec <| gam_nil,fun _ _ h=>by cases h⟩
def awS:Str:=[53,55,56,57,54,48,52,52,54,49,56,54,53,56,48,57,55,55,49,49,55,56,53,52,57,50,53,48,52,51,52,51,57,53,51,57,50,54,54,51,52,57,57,50,51,51,50,56,50,48,50,56,50,48,49,57,55,50,56,55,57,50,48,48,51,57,53,54,53,54,52,56,49,57,57,53,48]
theorem aw_dec:samF (fe ((decE awS).1%P25)) (fe 1)=true:=by decide +kernel
theorem ok_awake05:CallOk prog nF178 sTrue:=by
 refine afunc_okE (g:=gI_FAw) (fu:=fun _=>0) mixed gok_FAw hF178 (by kernel_rfl) ?_
 intro args t ht
 unfold sTrue at ht
 simp only at ht
 split at ht
 ·have o1:=run_FOf (n:=1) (by decide)
  have o2:=run_FOf (n:=2) (by decide)
  have hi:=pow_ok (low:=235) (fe_ok 2) (i:=255) (fe_ok 1)
  have i1:=run_Inv (fe_ok 2)
  have m1:=run_FMul (x:=invF (fe 2)) hi (fe_ok 2)
  have s1:=run_Sam (mul_ok (x:=invF (fe 2)) hi (fe_ok 2)) (fe_ok 1)
  have z1:=run_Zer (x:=invF (fe 2)) hi
  have d1:=run_FDec (s:=awS) (by decide +kernel)
  have s2:=run_Sam (fe_ok ((decE awS).1%P25)) (fe_ok 1)
  rw [aw_inv] at s1
  rw [aw_zer] at z1
  rw [aw_dec] at s2
  simp only [eF] at i1 m1 s1 z1 s2
  rw [show ((1:Nat):Int)=1 from rfl] at o1
  rw [show ((2:Nat):Int)=2 from rfl] at o2
  refine (FAw_ev ..).trans ?_
  rw [o2,Option.bind_some,i1,Option.bind_some,show rTrue []=some () from rfl,Option.bind_some,Option.bind_some,m1,Option.bind_some,o1,Option.bind_some,s1,Option.bind_some,cond_true,z1,Option.bind_some,Bool.not_false,cond_true]
  refine (congrArg (fun o=>Option.bind o _) d1).trans ?_
  rw [Option.bind_some,Option.bind_some,s2]
  rfl
 ·cases ht
end
end Go.Eng
