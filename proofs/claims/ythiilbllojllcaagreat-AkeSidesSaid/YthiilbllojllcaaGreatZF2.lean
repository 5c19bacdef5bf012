import Derived.Test.YthiilbllojllcaaGreatPLT2
import Derived.Test.YthiilbllojllcaaGreatZF1
namespace Go.Eng
open Go.IntKind (u64 i64 u8)
noncomputable section
open Go Go.Proofs
set_option linter.all false
set_option maxRecDepth 4000
abbrev aJ9:Cg:=Dr (Int) Wr (λ t=>[t,0,0,0,0,0,0,0]) (Nat) tH (λ t=>cM 8 t) (Nat × Bool) NO (λ t=>cM 8 t.fst) (λ t=>t.snd) (Nat × Nat × Int) aY1 (λ t=>cM 8 t.fst) (λ t=>cM 8 t.snd.fst) (λ t=>t.snd.snd)
theorem aRy:CfOk prog aJ9.c:=gk <| aA WW <| aA Mx <| aA Ss <| aA aY2 <| aH
theorem aRz (n:Nat):(cM 8 n).getD 0 0=((n%18446744073709551616:Nat):Int):=by
 have:=zU 8 0 n (by omega);rwa [iY,yA] at this
theorem aKa (n:Nat):fH .u64 ((cM 8 n).getD 0 0) 2251799813685247=((n%2251799813685248:Nat):Int):=by
 rw [aRz,msk _ (bH _ (by decide))];congr 1;omega
theorem shN {r k:Nat} (h:k < 512) (hk:0 < k):Ak r (-(k:Int))=r / 2 ^ k:=by
 unfold Ak;rw [aJ (by omega),aJ (by omega),Ep,aE,aD (by omega),aB,Ca,bD]
theorem aBw:CallOk prog 117 aHk:=by
 refine aZ (fu:=λ _=>6) aRy Tryz.func117 ?_;intro args t ht;obtain ⟨a,rfl,ha,rfl⟩:=w9 (F:=λ a=>fe (val a%aK)) ht;refine (aZB ..).trans ?_;have s1:tH [AV.agg (TRow.ints u64 [1,0,0,0,0,0,0,0]) 8,AV.int i64 255]=some 57896044618658097711785492504343953926634992332820282019728792003956564819968:=(yX (b:=[1,0,0,0,0,0,0,0]) (by decide) 255).trans (by decide +kernel);have s2:NO [AV.agg (TRow.ints u64 (cM 8 57896044618658097711785492504343953926634992332820282019728792003956564819968)) 8,AV.agg (TRow.ints u64 [19,0,0,0,0,0,0,0]) 8]=some (gD+aK,true) :=
  (JL (cL _) (b:=[19,0,0,0,0,0,0,0]) (by decide)).trans (by decide +kernel)
 have s3:aY1 [AV.agg (TRow.ints u64 a) 8,AV.agg (TRow.ints u64 (cM 8 (gD+aK))) 8]=some (val a / aK,val a%aK,0):=by
  refine (aOR ha (cL _)).trans ?_;have:val (cM 8 (gD+aK))=aK:=by decide +kernel
  rw [KW,this,aV (by decide)]
 have o1:Wr [AV.int u64 1]=some 1:=rfl;have o2:Wr [AV.int u64 19]=some 19:=rfl;rw [o1,aC,s1,aC,o2,aC,s2,aC,s3,aC];show eV prog aJ9 6 BP _ 6 (some _)=_;dsimp only;have hr:val a%aK < aK:=fG _;generalize val a%aK=r at *;have hv:val (cM 8 r)=r:=by
  rw [mN]; exact aY (cZ hr (by decide))
 have h:∀ k:Nat,0 < k->k < 512->tH [AV.agg (TRow.ints u64 (cM 8 r)) 8,AV.int i64 (-(k:Int))]=some (r / 2 ^ k):=λ k h0 h1=>by
  refine (yX (cL r) _).trans ?_;rw [hv,shN h1 h0]
 have h0:tH [AV.agg (TRow.ints u64 (cM 8 r)) 8,AV.int i64 0]=some r:=by
  refine (yX (cL r) _).trans ?_;rw [hv]; simp [Ak]
 have t1:tH [AV.agg (TRow.ints u64 (cM 8 r)) 8,AV.int i64 (-51)]=some (r / 2251799813685248):=h 51 (by omega) (by omega);have t2:tH [AV.agg (TRow.ints u64 (cM 8 r)) 8,AV.int i64 (-102)]=some (r / 5070602400912917605986812821504):=h 102 (by omega) (by omega);have t3:tH [AV.agg (TRow.ints u64 (cM 8 r)) 8,AV.int i64 (-153)]=some (r / 11417981541647679048466287755595961091061972992):=h 153 (by omega) (by omega);have t4:tH [AV.agg (TRow.ints u64 (cM 8 r)) 8,AV.int i64 (-204)]=some (r / 25711008708143844408671393477458601640355247900524685364822016):=h 204 (by omega) (by omega);rw [aF,aZ7,h0,aC,aKa,aF,aZ8,t1,aC,aKa,aF,aZ9,t2,aC,aKa,aF,bAa,t3,aC,aKa,aF,bAb,t4,aC,aKa,aF,bAc,aR,aHF];rfl
theorem Uz {a:List Int} (h:gK a=true):N1 [W8 a]=some (fe (val a%aK)):=by
 simp only [N1,aHk];exact lN (λ a=>fe (val a%aK)) h
abbrev bC4:Cg:=aV8 (Nat × Int) FE (λ t=>cM 8 t.fst) (λ t=>t.snd) (Fe) N1 (λ t=>↑t.a) (λ t=>↑t.b) (λ t=>↑t.c) (λ t=>↑t.d) (λ t=>↑t.e)
theorem aRA:CfOk prog bC4.c:=gk <| aA EL <| aA aBw <| aH
theorem aRB (s:Str):(z8 s).1 < gD:=by
 unfold z8;cases yY s
 ·exact KU
 ·rw [aB];cases h:Nat.blt (wW 0 s) gD
  ·exact KU
  ·exact cY.mp h
theorem Ja:CallOk prog 77 N2:=by
 refine fO aRA Tryz.func77 ?_;intro args t ht;unfold N2 at ht;simp only at ht;split at ht
 ·rename_i s;obtain ⟨h1,h2⟩:=bO ht;subst h2;refine (aZC ..).trans ?_;have c:=Uz (cL (z8 s).1);rw [mN,aY (aRB s),W8] at c;rw [IU (vA h1),aC];show (N1 [AV.agg (TRow.ints u64 (cM 8 (z8 s).1)) 8]).bind _=_;rw [c]; rfl
 ·cases ht
theorem nW {s:Str} (h:s.length <= 1099511627776):BO [.str s]=some (fe ((z8 s).1%aK)):=by
 simp only [BO,N2];rw [aD h]; rfl
theorem fW {a:List Int} (h:dP a=true):a.length=32 /\ kX a=true:=by
 simp only [dP,aW] at h;exact ⟨aT h.1,h.2⟩
theorem sX {T:Type} {F:List Int->T} {args:List AV} {t:T} (h:Ax F args=some t):∃ a,args=[pG a] /\ dP a=true /\ t=F a:=by
 unfold Ax at h;split at h
 ·obtain ⟨h1,h2⟩:=bO h;exact ⟨_,rfl,h1,h2.symm⟩
 ·cases h
theorem B2 {T:Type} (F:List Int->T) {a:List Int} (h:dP a=true):Ax F [pG a]=some (F a):=by
 simp only [Ax,pG];rw [h]; rfl
theorem bC5:∀ n:Fin 256,fH u8 (n.1:Int) 127=((n.1%128:Nat):Int):=by decide +kernel
theorem bC6 {a:List Int} (h:dP a=true):kX (a.set 31 (fH .u8 (a.getD 31 0) 127))=true /\ vB (a.set 31 (fH .u8 (a.getD 31 0) 127))=vB a%FL:=by
 obtain ⟨hl,hb⟩:=fW h;obtain ⟨g0,g1⟩:=My hb 31;obtain ⟨n,hn⟩:=bZ g0;have hn':n < 256:=by omega
 rw [hn,show fH .u8 (n:Int) 127=((n%128:Nat):Int) from bC5 ⟨n,hn'⟩];refine ⟨Sy a 31 (n%128) hb (by omega),?_⟩;have h1:=Zm a 31 (n%128) (by omega) hb;rw [hn,bD] at h1;have h2:=IR a hb;rw [hl] at h2;have h3:n=vB a / 256 ^ 31:=by
  have e:=Cw 32 (vB a) 31 (by omega);rw [<-hl,Ks a hb,hn] at e;have:=Int.ofNat.inj e;rw [this];exact aY (by simp only [Nat.reducePow] at h2 ⊢; omega)
 simp only [Nat.reducePow,FL] at *;omega
abbrev bC7:Cg:=aV9 (Nat × Int) Xc (λ t=>cM 8 t.fst) (λ t=>t.snd) (Fe) N1 (λ t=>↑t.a) (λ t=>↑t.b) (λ t=>↑t.c) (λ t=>↑t.d) (λ t=>↑t.e)
theorem aRC:CfOk prog bC7.c:=gk <| aA Wk <| aA aBw <| aH
theorem U0:CallOk prog 188 XF:=by
 refine fO aRC Tryz.func188 ?_;intro args t ht;obtain ⟨a,rfl,ha,rfl⟩:=sX (F:=sT) ht;obtain ⟨hl,hb⟩:=fW ha;obtain ⟨k1,k2⟩:=bC6 ha;refine (aZD ..).trans ?_;have hlen:(a.set 31 (fH .u8 (a.getD 31 0) 127)).length=32:=by rw [NE,hl]
 rw [gL,d9 (by omega),PZ (by rw [eZ,hlen]; omega),aC,eZ,hlen,show Nat.blt 64 32=false from rfl,aE,aDK k1,k2];have c:=Uz (cL (vB a%FL));rw [mN,aY (a:=vB a%FL) (b:=gD) (cZ (bH _ (by decide)) (by decide)),W8] at c;show (N1 [AV.agg (TRow.ints u64 (cM 8 (vB a%FL))) 8]).bind _=_;rw [c]; rfl
theorem OV {a:List Int} (h:dP a=true):Pp [pG a]=some (sT a):=by
 simp only [Pp,XF];exact B2 sT h
abbrev Qn:Cg:=FN (Fe) rU (λ t=>↑t.a) (λ t=>↑t.b) (λ t=>↑t.c) (λ t=>↑t.d) (λ t=>↑t.e)
theorem aRD:CfOk prog Qn.c:=gk <| aA Cr <| aH
theorem bJH (x y:Nat) (hx:x < 256) (hy:y < 256):Fv .u8 (x:Int) (y:Int)=((x ||| y:Nat):Int):=by
 unfold Fv;have e:(BitVec.ofInt (IntKind.bits .u8) (x:Int) ||| BitVec.ofInt (IntKind.bits .u8) (y:Int)).toNat=x ||| y:=by
  show (BitVec.ofInt 8 (x:Int) ||| BitVec.ofInt 8 (y:Int)).toNat=x ||| y;rw [BitVec.toNat_or,aDM,aDM,Wm,Wm,aY (by omega),aY (by omega)]
 rw [e,qD,aY];exact KN (n:=8) hx hy
theorem bJI:∀ (b:Fin 2) (r:Fin 8),mE .u8 (u8.wrap (b.1:Int)) (r.1:Int)=((b.1*2 ^ r.1:Nat):Int):=by decide +kernel
theorem bC8 (q:Nat):256 ^ q=2 ^ (8*q):=by rw [show 256=2 ^ 8 from rfl,<-lJ]
theorem bC9 (x b r:Nat) (hx:x < 2 ^ r) (hb:b < 2):x ||| b*2 ^ r=x+b*2 ^ r:=by
 rcases (by omega:b=0 ∨ b=1) with rfl | rfl
 ·simp
 ·rw [mZ]; exact aNs x r hx
theorem aKb {a b:List Int} (ha:kX a=true) (hb:kX b=true) (hl:a.length=b.length) (h:vB a=vB b):a=b:=by
 rw [<-Ks a ha,<-Ks b hb,hl,h]
theorem aRE (n t:Nat) (ht:t < 255):(lo 32 (n%2 ^ t)).set (t / 8) (Fv .u8 ((lo 32 (n%2 ^ t)).getD (t / 8) 0) (mE .u8 (u8.wrap ((n / 2 ^ t%2:Nat):Int)) ((t%8:Nat):Int)))=lo 32 (n%2 ^ (t+1)):=by
 have hb:n / 2 ^ t%2 < 2:=bH _ (by decide);generalize hbit:n / 2 ^ t%2=b at *;have e1:n%2 ^ (t+1)=n%2 ^ t+b*2 ^ t:=by
  rw [bM,qJ,hbit,bV]
 have hm:n%2 ^ t < 2 ^ t:=bH _ (Nat.two_pow_pos t);rw [e1];generalize n%2 ^ t=m at *;have hs:2 ^ t=2 ^ (8*(t / 8))*2 ^ (t%8):=by rw [<-dV]; congr 1; omega
 have hq:m / 256 ^ (t / 8) < 2 ^ (t%8):=by
  rw [bC8,DP (Nat.two_pow_pos _),bV,<-hs]; exact hm
 have h8:2 ^ (t%8) <= 128:=kM (n:=2) (by omega) (by omega:t%8 <= 7);have hbr:b*2 ^ (t%8) <= 128:=by
  rcases (by omega:b=0 ∨ b=1) with rfl | rfl <;> omega
 have e0:mE .u8 (u8.wrap (b:Int)) ((t%8:Nat):Int)=((b*2 ^ (t%8):Nat):Int):=bJI ⟨b,hb⟩ ⟨t%8,by omega⟩;rw [Cw 32 m (t / 8) (by omega),aY (a:=m / 256 ^ (t / 8)) (by omega),e0,bJH _ _ (by omega) (by omega),bC9 _ _ _ hq hb];have pm:2 ^ t < 2 ^ 255:=Nat.pow_lt_pow_right (by decide) ht;have hbt:b*2 ^ t <= 2 ^ t:=by
  rcases (by omega:b=0 ∨ b=1) with rfl | rfl <;> omega
 refine aKb (Sy _ _ _ (vX ..) (by omega)) (vX ..) (by rw [NE,fS,fS]) ?_;have h1:=Zm (lo 32 m) (t / 8) (m / 256 ^ (t / 8)+b*2 ^ (t%8)) (by rw [fS]; omega) (vX ..);rw [Cw 32 m (t / 8) (by omega),bD,aY (a:=m / 256 ^ (t / 8)) (by omega),Fa,aY (a:=m) (by simp only [Nat.reducePow] at pm ⊢; omega),yC] at h1;rw [Fa,aY (a:=m+b*2 ^ t) (by simp only [Nat.reducePow] at pm ⊢; omega)];have e2:256 ^ (t / 8)*(b*2 ^ (t%8))=b*2 ^ t:=by
  rw [hs,bC8,HA]
 rw [e2] at h1;omega
theorem bDa (n i k:Nat) (hk:k < 51):fH .u64 (eJ .u64 ((n / 2 ^ (51*i)%2251799813685248:Nat):Int) (k:Int)) 1=((n / 2 ^ (51*i+k)%2:Nat):Int):=by
 rw [pF _ k (by omega),aVb _ (jS (sO ..) (cZ (bH _ (by decide)) (by decide)))];congr 1;rw [show (2251799813685248:Nat)=2 ^ k*2 ^ (51 - k) by rw [<-dV,show k+(51 - k)=51 by omega],KM,jE,<-dV];exact Nat.mod_mod_of_dvd _ (sP (by decide:2 ∣ 2 ^ 1) (Nat.pow_dvd_pow 2 (by omega)))
theorem bHl {β:Type} (n:Nat) (xs zs:List Int) (fu:Nat) (G:FG β) (H:FH β) (i:Nat) (hi:i < 5):∀ (d m k:Nat),k+d=51->d < m ->
  eV prog Qn fu XI (XJ _ rU (λ t=>(t.a:Int)) (λ t=>(t.b:Int)) (λ t=>(t.c:Int)) (λ t=>(t.d:Int)) (λ t=>(t.e:Int)) fu G H) m
   (some (Pu (i:Int) ((n / 2 ^ (51*i)%2251799813685248:Nat):Int) xs (i:Int) (k:Int) zs (lo 32 (n%2 ^ (51*i+k)))))=G (some (Kc xs ((i+1:Nat):Int) zs (lo 32 (n%2 ^ (51*(i+1)))))):=by
 intro d
 induction d with
 | zero=>
  intro m k hk hm;obtain ⟨m,rfl⟩:=aP (by omega:m ≠ 0);have e:k=51:=by omega
  subst e;rw [aF,aHB,aJ (by omega),aE,aR,aHD,bW (by omega) (by omega)];rfl
 | succ d ih=>
  intro m k hk hm;obtain ⟨m,rfl⟩:=aP (by omega:m ≠ 0);have h:=ih m (k+1) (by omega) (by omega);have e1:i64.wrap (i64.wrap (51*(i:Int))+(k:Int))=((51*i+k:Nat):Int):=by
   rw [bW (n:=51*(i:Int)) (by omega) (by omega),bW (by omega) (by omega)]; omega
  have e2:i64.wrap ((((51*i+k:Nat):Int)).tdiv 8)=(((51*i+k) / 8:Nat):Int):=by
   rw [qH (by omega),bW (by omega) (by omega)]; omega
  have e3:(((51*i+k:Nat):Int)).tmod 8=(((51*i+k)%8:Nat):Int):=by
   rw [mQ (by omega)]; omega
  rw [aF,aHB,aD (by omega),aB,e1,e2,e3,aD (by omega),aB,aJ (by omega),aE,aJ (by omega),aE,aB,bD,bT,bDa n i k (by omega),aRE n (51*i+k) (by omega),bW (by omega) (by omega)];exact h
theorem bDb (n:Nat) (zs:List Int) (fu:Nat) (hfu:51 < fu):∀ (d m i:Nat),i+d=5->d < m ->
  eV prog Qn fu HK (Ke _ rU (λ t=>(t.a:Int)) (λ t=>(t.b:Int)) (λ t=>(t.c:Int)) (λ t=>(t.d:Int)) (λ t=>(t.e:Int)) fu) m
   (some (Kc [((fe n).a:Int),(fe n).b,(fe n).c,(fe n).d,(fe n).e] (i:Int) zs (lo 32 (n%2 ^ (51*i)))))=some (pG (lo 32 (n%2 ^ 255))):=by
 intro d
 induction d with
 | zero=>
  intro m i hi hm;obtain ⟨m,rfl⟩:=aP (by omega:m ≠ 0);have e:i=5:=by omega
  subst e;rw [aF,aHA,aJ (by omega),aE,aR,aHC]; rfl
 | succ d ih=>
  intro m i hi hm;obtain ⟨m,rfl⟩:=aP (by omega:m ≠ 0);have h:=ih m (i+1) (by omega) (by omega);rw [aF,aHA,aD (by omega),aB,aD (by omega),aB,bD];have g:=bHl n [((fe n).a:Int),(fe n).b,(fe n).c,(fe n).d,(fe n).e] zs fu (eV prog Qn fu HK (Ke _ rU (λ t=>(t.a:Int)) (λ t=>(t.b:Int)) (λ t=>(t.c:Int)) (λ t=>(t.d:Int)) (λ t=>(t.e:Int)) fu) m)
   (Db (Ke _ rU (λ t=>(t.a:Int)) (λ t=>(t.b:Int)) (λ t=>(t.c:Int)) (λ t=>(t.d:Int)) (λ t=>(t.e:Int)) fu)) i (by omega) 51 fu 0 (by omega) hfu
  rw [fP] at g;have hg:([((fe n).a:Int),(fe n).b,(fe n).c,(fe n).d,(fe n).e]:List Int).getD i 0=((n / 2 ^ (51*i)%2251799813685248:Nat):Int):=by
   have hi5:i < 5:=by omega
   clear hi h g ih
   match i,hi5 with
   | n+5,h=>exact absurd h (by omega)
   | 0,_=>simp [fe]
   | 1,_=>rfl
   | 2,_=>rfl
   | 3,_=>rfl
   | 4,_=>rfl
  rw [hg];exact g.trans h
theorem OW:CallOk prog 39 Po:=by
 refine aZ (fu:=λ _=>60) aRD Tryz.func39 ?_;intro args t ht;obtain ⟨x,rfl,hx,rfl⟩:=pJ (F:=λ x=>lo 32 (fv x%aK)) ht;have c:=vW hx;simp only [eF] at c;refine (aZy ..).trans ?_;rw [c,aC];have h:=bDb (fv x%aK) (List.replicate 32 0) 60 (by omega) 5 60 0 (by omega) (by omega);rw [aY (a:=fv x%aK) (b:=2 ^ 255) (cZ (fG _) (by decide +kernel)),u9,iY,qK] at h;exact h
theorem Ld {x:Fe} (h:cS x):Cp [eF x]=some (lo 32 (fv x%aK)):=by
 simp only [Cp,Po];exact AA (λ x=>lo 32 (fv x%aK)) h
theorem aRF (a:List Int):fv (sT a)=vB a%FL%aK:=Dq (cZ (fG _) (by decide))
abbrev bDc:Cg:=aWa (Fe) Pp (λ t=>↑t.a) (λ t=>↑t.b) (λ t=>↑t.c) (λ t=>↑t.d) (λ t=>↑t.e) (List Int) Cp (λ t=>t)
theorem aRG:CfOk prog bDc.c:=gk <| aA U0 <| aA OW <| aH
theorem U3 {a:List Int} (ha:dP a=true):(lo 32 (fv (sT a)%aK)=a) ↔ vB a < aK:=by
 obtain ⟨hl,hb⟩:=fW ha;have h2:=IR a hb;rw [hl] at h2;rw [aRF,mY];constructor
 ·intro h;have:=dW vB h;rw [Fa,aY (cZ (fG _) (by decide +kernel))] at this;rw [<-this]; exact fG _
 ·intro h;rw [aY (cZ h (by decide)),aY h,<-hl];exact Ks a hb
theorem aEV:CallOk prog 164 JM:=by
 refine fO aRG Tryz.func164 ?_;intro args t ht;obtain ⟨a,rfl,ha,rfl⟩:=sX (F:=HH) ht;have c:=OV ha;have c2:=Ld (cA (vB a%FL%aK));simp only [pG] at c;simp only [eF] at c2;refine (aZE ..).trans ?_;rw [c,aC];show ((Cp [AV.agg (TRow.ints u64 [((fe (vB a%FL%aK)).a:Int),(fe (vB a%FL%aK)).b,(fe (vB a%FL%aK)).c,(fe (vB a%FL%aK)).d,(fe (vB a%FL%aK)).e]) 5]).bind λ (bY:List Int)=>_)=_;rw [c2,aC];show _=some (JM.enc (HH a));by_cases h:vB a < aK
 ·have hs:lo 32 (fv (fe (vB a%FL%aK))%aK)=a:=(U3 ha).2 h;have hp:HH a=(fe (vB a),0):=by rw [HH,cY.mpr h]; rfl
  have hf:sT a=fe (vB a):=by
   rw [sT,aY (a:=vB a) (cZ h (by decide)),aY h]
  rw [aD hs,hp,iD,aE,hf];rfl
 ·have hs:¬ lo 32 (fv (fe (vB a%FL%aK))%aK)=a:=λ e=>h ((U3 ha).1 e);have hp:HH a=(f0,7):=by
   rw [HH];cases hb:Nat.blt (vB a) aK
   ·rfl
   ·exact absurd (cY.mp hb) h
  rw [aJ hs,hp];rfl
theorem YV {a:List Int} (h:dP a=true):Pq [pG a]=some (HH a):=by
 simp only [Pq,JM];exact B2 HH h
section
variable (T0:Type) (R0:FA T0) (aG:T0->List Int) (aO:T0->Nat) (cE:T0->Bool)
def aXq:Cg:=⟨⟨cV [(87,⟨R0,λ t=>AV.tup [.s (dI (aG t) (aO t)),.s (.pl (.bool (cE t)))]⟩)],[],cX⟩,[]⟩
theorem bDd (fu:Nat) (s:Str):aS prog Tryz.f50 (aXq T0 R0 aG aO cE) fu [.str s]=(R0 [.str s]).bind λ t=>some (AV.s (dI (aG t) (aO t))):=by kernel_rfl
end
section
variable (T0:Type) (R0:FA T0) (aG:T0->List Int) (aO:T0->Nat)
def aXr:Cg:=⟨⟨cV [(50,⟨R0,λ t=>AV.s (dI (aG t) (aO t))⟩)],[],cX⟩,[]⟩
theorem bDe (fu:Nat):aS prog Tryz.f95 (aXr T0 R0 aG aO) fu []=(R0 [.str ([(53:UInt8),55,56,57,54,48,52,52,54,49,56,54,53,56,48,57,55,55,49,49,55,56,53,52,57,50,53,48,52,51,52,51,57,53,51,57,50,54].append [(54:UInt8),51,52,57,57,50,51,51,50,56,50,48,50,56,50,48,49,57,55,50,56,55,57,50,48,48,51,57,53,54,53,54,52,56,49,57,57,52,57])]).bind λ t=>some (AV.s (dI (aG t) (aO t))):=by kernel_rfl
end
section
variable (T0:Type) (R0:FA T0) (aG:T0->List Int) (aO:T0->Nat) (T1:Type) (R1:FA T1) (aM:T1->List Int) (bK:T1->Nat) (T2:Type) (R2:FA T2) (bE:T2->List Int) (bU:T2->Nat) (T3:Type) (R3:FA T3) (bS:T3->Int) (T4:Type) (R4:FA T4) (dG:T4->List Int) (jU:T4->Nat)
def B3:Cg:=⟨⟨cV [(130,⟨R0,λ t=>AV.s (dI (aG t) (aO t))⟩),(46,⟨R1,λ t=>AV.s (dI (aM t) (bK t))⟩),(95,⟨R2,λ t=>AV.s (dI (bE t) (bU t))⟩),(48,⟨R3,λ t=>AV.int .i64 (bS t)⟩),(49,⟨R4,λ t=>AV.s (dI (dG t) (jU t))⟩)],[],cX⟩,[(2,[0],[0]),(5,[0,3],[0,3]),(9,[0,4],[0])]⟩
def Qo (x0:List Int) (n0:Nat):St:={ tm:=[(0,.s (dI x0 n0))],hp:=[],nx:=0,sz:=41 }
def YW:Code:=cN (bN [1,0,2] (bB Tryz.f134))
def Qp (fu:Nat):=mD prog (B3 T0 R0 aG aO T1 R1 aM bK T2 R2 bE bU T3 R3 bS T4 R4 dG jU) fu [1,0,2] (bB Tryz.f134) (gI prog Tryz.f134)
abbrev bDf (fu:Nat) (x0:List Int) (n0:Nat):=eV prog (B3 T0 R0 aG aO T1 R1 aM bK T2 R2 bE bU T3 R3 bS T4 R4 dG jU) fu YW (Qp T0 R0 aG aO T1 R1 aM bK T2 R2 bE bU T3 R3 bS T4 R4 dG jU fu ) fu (some (Qo x0 n0))
theorem bDg (fu:Nat) (x:Nat):aS prog Tryz.f134 (B3 T0 R0 aG aO T1 R1 aM bK T2 R2 bE bU T3 R3 bS T4 R4 dG jU) fu [eN x]=bDf T0 R0 aG aO T1 R1 aM bK T2 R2 bE bU T3 R3 bS T4 R4 dG jU fu (nb x) (nb x).length:=by kernel_rfl
def Le (x0:List Int) (n0:Nat):St:={ tm:=[(0,.s (dI x0 n0))],hp:=[],nx:=0,sz:=41 }
theorem YX {β:Type} (fu:Nat) (G:FG β) (H:FH β) (x0:List Int) (n0:Nat):fV prog (B3 T0 R0 aG aO T1 R1 aM bK T2 R2 bE bU T3 R3 bS T4 R4 dG jU) fu YW G H (Qo x0 n0)=bif decide (32 < (n0:Int)) then bif decide ((0:Int) <= 0 /\ (0:Int) <= 32 /\ (32:Int) <= 32 /\ 32 <= (n0:Int)) then bif decide ((0:Int) <= 32 /\ 32 <= (n0:Int) /\ (n0:Int) <= (n0:Int)) then (R0 [.s (.dat (.ints .i64 (List.take (((n0:Int) - 32).toNat*1) (List.drop 32 x0))) ((n0:Int) - 32).toNat 1),.s (dI [38] 1)]).bind λ t=>(R1 [.s (dI (List.take 32 (List.drop 0 x0)) 32),.s (dI (aG t) (aO t))]).bind λ t=>G (some (Qo (aM t) (bK t))) else none else none else H (Ex.exit 0) (some (Le x0 n0)):=by kernel_rfl
def Qq (x0:List Int) (n0:Nat) (v3:Int):St:={ tm:=[(0,.s (dI x0 n0)),(3,.int .i64 v3)],hp:=[],nx:=0,sz:=41 }
def Qr:Code:=cN (bN [1,1,1,0,2] (bB Tryz.f134))
def aKc (fu:Nat):=mD prog (B3 T0 R0 aG aO T1 R1 aM bK T2 R2 bE bU T3 R3 bS T4 R4 dG jU) fu [1,1,1,0,2] (bB Tryz.f134) (gI prog Tryz.f134)
abbrev bDh (fu:Nat) (x0:List Int) (n0:Nat) (v3:Int):=eV prog (B3 T0 R0 aG aO T1 R1 aM bK T2 R2 bE bU T3 R3 bS T4 R4 dG jU) fu Qr (aKc T0 R0 aG aO T1 R1 aM bK T2 R2 bE bU T3 R3 bS T4 R4 dG jU fu ) fu (some (Qq x0 n0 v3))
theorem aKd (fu:Nat) (x0:List Int) (n0:Nat):Qp T0 R0 aG aO T1 R1 aM bK T2 R2 bE bU T3 R3 bS T4 R4 dG jU fu  (Ex.exit 0) (Le x0 n0)=bDh T0 R0 aG aO T1 R1 aM bK T2 R2 bE bU T3 R3 bS T4 R4 dG jU fu x0 n0 (n0:Int):=by kernel_rfl
def GB (x0:List Int) (n0:Nat) (v3:Int):St:={ tm:=[(0,.s (dI x0 n0)),(3,.int .i64 v3)],hp:=[],nx:=0,sz:=41 }
theorem bDi {β:Type} (fu:Nat) (G:FG β) (H:FH β) (x0:List Int) (n0:Nat) (v3:Int):fV prog (B3 T0 R0 aG aO T1 R1 aM bK T2 R2 bE bU T3 R3 bS T4 R4 dG jU) fu Qr G H (Qq x0 n0 v3)=bif decide (0 < v3) then bif decide (0 <= i64.wrap (v3 - 1) /\ i64.wrap (v3 - 1) < (n0:Int)) then bif decide (x0.getD (i64.wrap (v3 - 1)).toNat (0:Int)=0) then G (some (Qq x0 n0 (i64.wrap (v3 - 1)))) else H (Ex.exit 2) (some (GB x0 n0 v3)) else none else H (Ex.exit 2) (some (GB x0 n0 v3)):=by kernel_rfl
def Qs (x0:List Int) (n0:Nat) (x4:List Int) (n4:Nat):St:={ tm:=[(0,.s (dI x0 n0)),(4,.s (dI x4 n4))],hp:=[],nx:=0,sz:=41 }
def YY:Code:=cN (bN [1,1,1,1,1,1,0,2] (bB Tryz.f134))
def YZ (fu:Nat):=mD prog (B3 T0 R0 aG aO T1 R1 aM bK T2 R2 bE bU T3 R3 bS T4 R4 dG jU) fu [1,1,1,1,1,1,0,2] (bB Tryz.f134) (gI prog Tryz.f134)
abbrev bDj (fu:Nat) (x0:List Int) (n0:Nat) (x4:List Int) (n4:Nat):=eV prog (B3 T0 R0 aG aO T1 R1 aM bK T2 R2 bE bU T3 R3 bS T4 R4 dG jU) fu YY (YZ T0 R0 aG aO T1 R1 aM bK T2 R2 bE bU T3 R3 bS T4 R4 dG jU fu ) fu (some (Qs x0 n0 x4 n4))
theorem aKe (fu:Nat) (x0:List Int) (n0:Nat) (v3:Int):aKc T0 R0 aG aO T1 R1 aM bK T2 R2 bE bU T3 R3 bS T4 R4 dG jU fu  (Ex.exit 2) (GB x0 n0 v3)=bif decide ((0:Int) <= 0 /\ 0 <= v3 /\ v3 <= (n0:Int)) then (R2 []).bind λ t=>bDj T0 R0 aG aO T1 R1 aM bK T2 R2 bE bU T3 R3 bS T4 R4 dG jU fu (List.take ((v3 - 0).toNat*1) (List.drop 0 x0)) (v3 - 0).toNat (bE t) (bU t) else none:=by kernel_rfl
def U4 (x0:List Int) (n0:Nat):St:={ tm:=[(0,.s (dI x0 n0))],hp:=[],nx:=0,sz:=41 }
theorem aKf {β:Type} (fu:Nat) (G:FG β) (H:FH β) (x0:List Int) (n0:Nat) (x4:List Int) (n4:Nat):fV prog (B3 T0 R0 aG aO T1 R1 aM bK T2 R2 bE bU T3 R3 bS T4 R4 dG jU) fu YY G H (Qs x0 n0 x4 n4)=(R3 [.s (dI x0 n0),.s (dI x4 n4)]).bind λ t=>bif decide (0 <= bS t) then (R4 [.s (dI x0 n0),.s (dI x4 n4)]).bind λ t=>G (some (Qs (dG t) (jU t) x4 n4)) else H (Ex.exit 4) (some (U4 x0 n0)):=by kernel_rfl
theorem U5 (fu:Nat) (x0:List Int) (n0:Nat):YZ T0 R0 aG aO T1 R1 aM bK T2 R2 bE bU T3 R3 bS T4 R4 dG jU fu  (Ex.exit 4) (U4 x0 n0)=some (AV.s (dI x0 n0)):=by kernel_rfl
end
def U6:Cg:=⟨⟨cV [],[],cX⟩,[(4,[0,2,3,4],[2,3])]⟩
def Qt (x0:List Int) (n0:Nat) (v4:Int) (aQ bC:List Int):St:={ tm:=[(0,.s (dI x0 n0)),(2,.s (.ptr 0 0 32)),(3,.s (.ptr 1 0 32)),(4,.int .i64 v4)],hp:=[(0,{ ty:=23,n:=32,row:=Row.t (.ints .u8 aQ) }),(1,{ ty:=23,n:=32,row:=Row.t (.ints .u8 bC) })],nx:=2,sz:=23 }
def Ya:Code:=cN (bN [1,1,0,1,2] (bB Tryz.f139))
def Yb (fu:Nat):=mD prog U6 fu [1,1,0,1,2] (bB Tryz.f139) (gI prog Tryz.f139)
abbrev bDk (fu:Nat) (x0:List Int) (n0:Nat) (v4:Int) (aQ bC:List Int):=eV prog U6 fu Ya (Yb fu ) fu (some (Qt x0 n0 v4 aQ bC))
theorem bDl (fu:Nat) (x:Nat):aS prog Tryz.f139 U6 fu [eN x]=bDk fu (nb x) (nb x).length 0 [0,0,0,0,0,0,0,0,0,0,0,0,0,0,0,0,0,0,0,0,0,0,0,0,0,0,0,0,0,0,0,0] [0,0,0,0,0,0,0,0,0,0,0,0,0,0,0,0,0,0,0,0,0,0,0,0,0,0,0,0,0,0,0,0]:=by kernel_rfl
def U7 (aQ bC:List Int):St:={ tm:=[(2,.s (.ptr 0 0 32)),(3,.s (.ptr 1 0 32))],hp:=[(0,{ ty:=23,n:=32,row:=Row.t (.ints .u8 aQ) }),(1,{ ty:=23,n:=32,row:=Row.t (.ints .u8 bC) })],nx:=2,sz:=23 }
theorem aKg {β:Type} (fu:Nat) (G:FG β) (H:FH β) (x0:List Int) (n0:Nat) (v4:Int) (aQ bC:List Int):fV prog U6 fu Ya G H (Qt x0 n0 v4 aQ bC)=bif decide (v4 < (n0:Int)) && decide (v4 < 32) then bif decide (0 <= v4 /\ v4 < (n0:Int)) then bif decide (0 <= v4 /\ v4 < 32) then G (some (Qt x0 n0 (i64.wrap (v4+1)) aQ (bC.set (0+v4.toNat) (u8.wrap (x0.getD v4.toNat 0))))) else none else none else H (Ex.exit 0) (some (U7 aQ bC)):=by kernel_rfl
theorem aKh (fu:Nat) (aQ bC:List Int):Yb fu  (Ex.exit 0) (U7 aQ bC)=some (AV.agg (.ints .u8 bC) 32):=by kernel_rfl
section
variable (T0:Type) (R0:FA T0) (aG:T0->List Int) (aO:T0->Nat) (T1:Type) (R1:FA T1) (aM:T1->List Int) (bK:T1->Nat)
def aXs:Cg:=⟨⟨cV [(46,⟨R0,λ t=>AV.s (dI (aG t) (aO t))⟩),(134,⟨R1,λ t=>AV.s (dI (aM t) (bK t))⟩)],[],cX⟩,[]⟩
theorem bDm (fu:Nat) (x y:Nat):aS prog Tryz.f98 (aXs T0 R0 aG aO T1 R1 aM bK) fu [eN x,eN y]=(R0 [.s (dI (nb x) (nb x).length),.s (dI (nb y) (nb y).length)]).bind λ t=>(R1 [.s (dI (aG t) (aO t))]).bind λ t=>some (AV.s (dI (aM t) (bK t))):=by kernel_rfl
end
section
variable (T0:Type) (R0:FA T0) (aG:T0->List Int) (aO:T0->Nat) (T1:Type) (R1:FA T1) (aM:T1->List Int) (bK:T1->Nat) (T2:Type) (R2:FA T2) (bE:T2->List Int) (bU:T2->Nat) (T3:Type) (R3:FA T3) (bS:T3->List Int) (eX:T3->Nat)
def aXt:Cg:=⟨⟨cV [(95,⟨R0,λ t=>AV.s (dI (aG t) (aO t))⟩),(46,⟨R1,λ t=>AV.s (dI (aM t) (bK t))⟩),(49,⟨R2,λ t=>AV.s (dI (bE t) (bU t))⟩),(134,⟨R3,λ t=>AV.s (dI (bS t) (eX t))⟩)],[],cX⟩,[]⟩
theorem bDn (fu:Nat) (x y:Nat):aS prog Tryz.f92 (aXt T0 R0 aG aO T1 R1 aM bK T2 R2 bE bU T3 R3 bS eX) fu [eN x,eN y]=(R0 []).bind λ t=>(R1 [.s (dI (nb x) (nb x).length),.s (dI (aG t) (aO t))]).bind λ t=>(R2 [.s (dI (aM t) (bK t)),.s (dI (nb y) (nb y).length)]).bind λ t=>(R3 [.s (dI (bE t) (bU t))]).bind λ t=>some (AV.s (dI (bS t) (eX t))):=by kernel_rfl
end
section
variable (T0:Type) (R0:FA T0) (aG:T0->List Int) (aO:T0->Nat) (T1:Type) (R1:FA T1) (aM:T1->List Int) (bK:T1->Nat)
def aXu:Cg:=⟨⟨cV [(130,⟨R0,λ t=>AV.s (dI (aG t) (aO t))⟩),(134,⟨R1,λ t=>AV.s (dI (aM t) (bK t))⟩)],[],cX⟩,[]⟩
theorem bDo (fu:Nat) (x y:Nat):aS prog Tryz.f91 (aXu T0 R0 aG aO T1 R1 aM bK) fu [eN x,eN y]=(R0 [.s (dI (nb x) (nb x).length),.s (dI (nb y) (nb y).length)]).bind λ t=>(R1 [.s (dI (aG t) (aO t))]).bind λ t=>some (AV.s (dI (aM t) (bK t))):=by kernel_rfl
end
def aKi:Cg:=⟨⟨cV [],[],cX⟩,[]⟩
theorem aRH (fu:Nat) (x:Nat):aS prog Tryz.f96 aKi fu [eN x]=bif decide (0 < (↑(nb x).length:Int)) then bif decide ((0:Int) <= 0 /\ 0 < (↑(nb x).length:Int)) then some (AV.bool (decide (((nb x).getD 0 0).tmod (2:Int)=1))) else none else some (AV.bool false):=by kernel_rfl
section
variable (T0:Type) (R0:FA T0) (aG:T0->Bool) (T1:Type) (R1:FA T1) (aM:T1->List Int) (bK:T1->Nat)
def aXv:Cg:=⟨⟨cV [(96,⟨R0,λ t=>AV.bool (aG t)⟩),(92,⟨R1,λ t=>AV.s (dI (aM t) (bK t))⟩)],[],cX⟩,[]⟩
theorem bDp (fu:Nat) (x:Nat):aS prog Tryz.f100 (aXv T0 R0 aG T1 R1 aM bK) fu [eN x]=(R0 [.s (dI (nb x) (nb x).length)]).bind λ t=>bif aG t then (R1 [.s (dI [] 0),.s (dI (nb x) (nb x).length)]).bind λ t=>some (AV.s (dI (aM t) (bK t))) else some (AV.s (dI (nb x) (nb x).length)):=by kernel_rfl
end
section
variable (T0:Type) (R0:FA T0) (aG aO cE cI cP:T0->Int) (T1:Type) (R1:FA T1) (aM bK iH iI iP:T1->Int) (T2:Type) (R2:FA T2) (T3:Type) (R3:FA T3) (bS eX oL vC vD:T3->Int) (T4:Type) (R4:FA T4) (dG:T4->Bool) (T5:Type) (R5:FA T5) (fE:T5->Bool) (T6:Type) (R6:FA T6) (mF nP DU DV DW:T6->Int)
def aXw:Cg:=⟨⟨cV [(32,⟨R0,λ t=>aU [(aG t),(aO t),(cE t),(cI t),(cP t)] 5⟩),(68,⟨R1,λ t=>aU [(aM t),(bK t),(iH t),(iI t),(iP t)] 5⟩),(146,⟨R2,λ t=>AV.bool (true)⟩),(29,⟨R3,λ t=>aU [(bS t),(eX t),(oL t),(vC t),(vD t)] 5⟩),(75,⟨R4,λ t=>AV.bool (dG t)⟩),(165,⟨R5,λ t=>AV.bool (fE t)⟩),(77,⟨R6,λ t=>aU [(mF t),(nP t),(DU t),(DV t),(DW t)] 5⟩)],[],cX⟩,[]⟩
theorem bDq (fu:Nat):aS prog Tryz.f209 (aXw T0 R0 aG aO cE cI cP T1 R1 aM bK iH iI iP T2 R2 T3 R3 bS eX oL vC vD T4 R4 dG T5 R5 fE T6 R6 mF nP DU DV DW) fu []=(R0 [.int .u64 2]).bind λ t=>(R1 [aU [aG t,aO t,cE t,cI t,cP t] 5]).bind λ t=>(R2 []).bind λ bY=>(R0 [.int .u64 2]).bind λ cJ=>(R3 [aU [aM t,bK t,iH t,iI t,iP t] 5,aU [aG cJ,aO cJ,cE cJ,cI cJ,cP cJ] 5]).bind λ fF=>(R0 [.int .u64 1]).bind λ gA=>(R4 [aU [bS fF,eX fF,oL fF,vC fF,vD fF] 5,aU [aG gA,aO gA,cE gA,cI gA,cP gA] 5]).bind λ gC=>bif dG gC then (R5 [aU [aM t,bK t,iH t,iI t,iP t] 5]).bind λ t=>bif !fE t then (R6 [.str ([(53:UInt8),55,56,57,54,48,52,52,54,49,56,54,53,56,48,57,55,55,49,49,55,56,53,52,57,50,53,48,52,51,52,51,57,53,51,57,50,54].append [(54:UInt8),51,52,57,57,50,51,51,50,56,50,48,50,56,50,48,49,57,55,50,56,55,57,50,48,48,51,57,53,54,53,54,52,56,49,57,57,53,48])]).bind λ t=>(R0 [.int .u64 1]).bind λ jJ=>(R4 [aU [mF t,nP t,DU t,DV t,DW t] 5,aU [aG jJ,aO jJ,cE jJ,cI jJ,cP jJ] 5]).bind λ t=>some (AV.bool (dG t)) else some (AV.bool false) else some (AV.bool false):=by kernel_rfl
end
section
variable (T0:Type) (R0:FA T0)
def aXx:Cg:=⟨⟨cV [(179,⟨R0,λ t=>AV.bool (true)⟩)],[],cX⟩,[]⟩
theorem bDr (fu:Nat):aS prog Tryz.f146 (aXx T0 R0) fu []=(R0 []).bind λ t=>some (AV.bool true):=by kernel_rfl
end
set_option maxRecDepth 4000
abbrev bDs:Cg:=aXq (Nat × Bool) BZ (λ t=>nb t.fst) (λ t=>(nb t.fst).length) (λ t=>t.2)
theorem aRI:CfOk prog bDs.c:=gk <| aA Nu <| aH
theorem Qu:CallOk prog 50 aHl:=by
 refine fO aRI Tryz.func50 ?_;intro args t ht;unfold aHl at ht;simp only at ht;split at ht
 ·rename_i s;obtain ⟨h1,h2⟩:=bO ht;subst h2;refine (bDd ..).trans ?_;rw [M5 (vA h1),aC];cases yY s <;> rfl
 ·cases ht
abbrev bDt:Cg:=aXr (Nat) aAk (λ t=>nb t) (λ t=>(nb t).length)
theorem aRJ:CfOk prog bDt.c:=gk <| aA Qu <| aH
theorem OX:CallOk prog 95 sRP:=by
 refine fO aRJ Tryz.func95 ?_;intro args t ht;unfold sRP at ht;simp only at ht;split at ht
 ·cases ht;refine (bDe ..).trans ?_;refine iW (b:=(some aK).bind λ (t:Nat)=>some (AV.s (SV.dat (TRow.ints i64 (nb t)) (nb t).length 1))) ?_ rfl;congr 1
 ·cases ht
theorem Hp:rRP []=some aK:=rfl
theorem EW (x k:Nat):k < (nb x).length ↔ 256 ^ k <= x:=by
 constructor
 ·exact N7
 ·intro h;rcases u7 k (nb x).length with g | g
  ·exact g
  ·have:=uE x;have:=kM (n:=256) (by decide) g;omega
theorem dL {x k:Nat} (h:x < 256 ^ k):(nb x).length <= k:=AF h
theorem U8 (k:Nat):∀ (j x:Nat),lo (j+k) x=lo j x++lo k (x / 256 ^ j):=by
 intro j
 induction j with
 | zero=>intro x; simp [lo]
 | succ j ih=>
  intro x;rw [show j+1+k=(j+k)+1 by omega,lo,lo,ih,Cc,jE,bM,bV 256]
theorem aBx (x j:Nat) (h:j <= (nb x).length):(nb x).drop j=nb (x / 256 ^ j):=by
 have e:=Ku x;have hk:(nb (x / 256 ^ j)).length=(nb x).length - j:=by
  refine Nat.le_antisymm (AF ?_) ?_
  ·rw [DP (jF (by decide)),<-dV,show (nb x).length - j+j=(nb x).length by omega];exact uE x
  ·rcases G8 ((nb x).length - j) with h0 | h0
   ·omega
   ·have:(nb x).length - j - 1 < (nb (x / 256 ^ j)).length:=by
     rw [EW,Nat.le_div_iff_mul_le (jF (by decide)),<-dV,<-EW];omega
    omega
 rw [Ku (x / 256 ^ j),hk,e,fS,show (nb x).length=j+((nb x).length - j) by omega,U8,ID (fS ..)];rw [show j+((nb x).length - j) - j=(nb x).length - j by omega]
theorem bJJ:AV.s (SV.dat (TRow.ints i64 [(38:Int)]) 1 1)=eN 38:=rfl
abbrev Lf:Cg:=B3 (Nat) xJ (λ t=>nb t) (λ t=>(nb t).length) (Nat) kY (λ t=>nb t) (λ t=>(nb t).length) (Nat) rRP (λ t=>nb t) (λ t=>(nb t).length) (Int) pN (λ t=>t) (Nat) rY (λ t=>nb t) (λ t=>(nb t).length)
theorem aRK:CfOk prog Lf.c:=gk <| aA H7 <| aA vP <| aA OX <| aA DJ <| aA zW <| aH
theorem Yc:(nb aK).length=32:=by decide +kernel
theorem rd3 (fu:Nat):∀ (d n x:Nat),x < (d+1)*aK->x < 256 ^ 32->d < n ->
  eV prog Lf fu YY (YZ _ xJ (λ t=>nb t) (λ t=>(nb t).length) _ kY (λ t=>nb t) (λ t=>(nb t).length) _ rRP (λ t=>nb t) (λ t=>(nb t).length) _ pN (λ t=>t) _ rY (λ t=>nb t) (λ t=>(nb t).length) fu) n (some (Qs (nb x) (nb x).length (nb aK) (nb aK).length))=some (eN (x%aK)):=by
 intro d;have hP:=Yc
 induction d with
 | zero=>
  intro n x hx hx2 hn;obtain ⟨n,rfl⟩:=aP (by omega:n ≠ 0);have hl:=dL hx2;have hc:=oY (x:=x) (y:=aK) (by omega) (by omega);simp only [eN] at hc;rw [aF,aKf,hc,aC,Co,aJ (by omega),aE,aR,U5,aY (by omega)];rfl
 | succ d ih=>
  intro n x hx hx2 hn;obtain ⟨n,rfl⟩:=aP (by omega:n ≠ 0);have hl:=dL hx2;have hc:=oY (x:=x) (y:=aK) (by omega) (by omega);simp only [eN] at hc;rw [aF,aKf,hc,aC,Co];by_cases c:aK <= x
  ·have hs:=rO (x:=x) (y:=aK) (by omega) (by omega) c;simp only [eN] at hs;rw [aD c,aB,hs,aC,Nat.mod_eq_sub_mod c];exact ih n (x - aK) (by rw [fX] at hx; omega) (by omega) (by omega)
  ·rw [aJ c,aE,aR,U5,aY (by omega)];rfl
theorem rd2 (fu:Nat) (hfu:3 < fu) (x:Nat) (hx:x < 256 ^ 32):Qp _ xJ (λ t=>nb t) (λ t=>(nb t).length) _ kY (λ t=>nb t) (λ t=>(nb t).length) _ rRP (λ t=>nb t) (λ t=>(nb t).length) _ pN (λ t=>t) _ rY (λ t=>nb t) (λ t=>(nb t).length) fu (.exit 0) (Le (nb x) (nb x).length)=some (eN (x%aK)):=by
 obtain ⟨m,rfl⟩:=aP (by omega:fu ≠ 0);have hl:=dL hx;have hr:∀ (fu':Nat) (G:Option St->Option AV) (H:Ex->Option St->Option AV),fV prog Lf fu' Qr G H (Qq (nb x) (nb x).length ((nb x).length:Int))=H (.exit 2) (some (GB (nb x) (nb x).length ((nb x).length:Int))):=by
  intro fu' G H;rw [bDi];by_cases h0:(nb x).length=0
  ·rw [aJ (by omega),aE]
  ·have ht:=Am (nb x) ((nb x).length - 1) (by rw [Kt]; omega);have e:i64.wrap (((nb x).length:Int) - 1)=(((nb x).length - 1:Nat):Int):=by rw [bW (by omega) (by omega)]; omega
   rw [aD (by omega),aB,e,aD (by omega),aB,bD,aJ ht,aE]
 refine (aKd ..).trans ?_;show eV prog Lf (m+1) Qr _ (m+1) (some _)=_;rw [aF,hr,aR,aKe,aD (by omega),aB,Hp,aC,Int.sub_zero,bD,gY,gL,Ar];exact rd3 (m+1) 2 (m+1) x (by simp only [aK]; simp only [Nat.reducePow] at hx; omega) hx (by omega)
theorem rd1 (fu:Nat) (hfu:3 < fu):∀ (d n x:Nat),(∀ y,y=x->True)->d < n->(d=0->x < 256 ^ 32)->(d=1->x < 256 ^ 32+256 ^ 31)->(d=2->x < 39*256 ^ 32)->(d=3->x < 256 ^ 64)->d <= 3 ->
  eV prog Lf fu YW (Qp _ xJ (λ t=>nb t) (λ t=>(nb t).length) _ kY (λ t=>nb t) (λ t=>(nb t).length) _ rRP (λ t=>nb t) (λ t=>(nb t).length) _ pN (λ t=>t) _ rY (λ t=>nb t) (λ t=>(nb t).length) fu) n (some (Qo (nb x) (nb x).length))=some (eN (x%aK)):=by
 intro d
 induction d with
 | zero=>
  intro n x _ hn h0 _ _ _ _;obtain ⟨n,rfl⟩:=aP (by omega:n ≠ 0);have hl:=dL (h0 rfl);rw [aF,YX,aJ (by omega),aE,aR];exact rd2 fu hfu x (h0 rfl)
 | succ d ih=>
  intro n x _ hn h0 h1 h2 h3 hd;obtain ⟨n,rfl⟩:=aP (by omega:n ≠ 0);have hx:x < 256 ^ 64:=by
   simp only [Nat.reducePow] at *;rcases (by omega:d=0 ∨ d=1 ∨ d=2) with rfl | rfl | rfl
   ·have:=h1 rfl; omega
   ·have:=h2 rfl; omega
   ·exact h3 rfl
  have hl:=dL hx;by_cases c:x < 256 ^ 32
  ·have hl:=dL c;rw [aF,YX,aJ (by omega),aE,aR];exact rd2 fu hfu x c
  ·have hlt:32 < (nb x).length:=(EW x 32).2 (by omega);have hq:x / 256 ^ 32 < 256 ^ 32:=by
    rw [DP (jF (by decide)),<-dV]; exact hx
   have hm:=En (x:=x / 256 ^ 32) (y:=38) (dC (dL hq) (by decide)) (by decide);have hq38:x / 256 ^ 32*38 < 256 ^ 33:=by simp only [Nat.reducePow] at hq ⊢; omega
   have ht:((nb x).take 32).length=32:=by rw [dH]; omega
   have ha:=Wi (a:=(nb x).take 32) (y:=x / 256 ^ 32*38) (Wc 32 (EK x)) (by omega) (dC (dL hq38) (by decide));rw [ht,aDh _ _ (EK x),gN] at ha;simp only [eN] at hm ha;have e1:(((nb x).length:Int) - 32).toNat=(nb x).length - 32:=by omega
   have e2:List.take ((nb x).length - 32) (List.drop 32 (nb x))=nb (x / 256 ^ 32):=by
    rw [d9 (by rw [lD]; omega),aBx x 32 (by omega)]
   have e3:(nb x).length - 32=(nb (x / 256 ^ 32)).length:=by
    rw [<-aBx x 32 (by omega),lD]
   rw [aF,YX,aD (by omega),aB,aD (by omega),aB,aD (by omega),aB,e1,gY,e2,e3,bJJ,eN,hm,aC,gL,ha,aC];have hmod:x%aK=(x%256 ^ 32+x / 256 ^ 32*38)%aK:=by
    have:x=x%256 ^ 32+x / 256 ^ 32*38+aK*(2*(x / 256 ^ 32)):=by
     have:=eI x (256 ^ 32);simp only [Nat.reducePow,aK] at *;omega
    rw [this,DO,<-this]
   rw [hmod];refine ih n _ (λ _ _=>trivial) (by omega) ?_ ?_ ?_ ?_ (by omega)
   ·intro hd0;have:=h1 (by omega);simp only [Nat.reducePow] at *;omega
   ·intro hd0;have:=h2 (by omega);simp only [Nat.reducePow] at *;omega
   ·intro hd0;simp only [Nat.reducePow] at *;omega
   ·intro hd0; omega
theorem Yd:CallOk prog 134 aOZ:=by
 refine aZ (fu:=λ _=>6) aRK Tryz.func134 ?_;intro args t ht;unfold aOZ oO at ht;simp only at ht;split at ht
 ·rename_i a n;obtain ⟨h1,h2⟩:=bO ht;rw [aW] at h1;obtain ⟨x,rfl,rfl,hx,ex⟩:=qE h1.1;have h3:=cY.mp h1.2;rw [ex] at h3 h2;subst h2;refine (bDg ..).trans ?_;exact rd1 6 (by omega) 3 6 x (λ _ _=>trivial) (by omega) (by omega) (by omega) (by omega) (λ _=>h3) (by omega)
 ·cases ht
theorem Qv {x:Nat} (h:x < i9):aHm [eN x]=some (x%aK):=by
 have hl:(nb x).length <= 64:=dL h;simp only [aHm,aOZ,oO,eN];rw [oX (by omega),gN,cY.mpr h]; rfl
theorem Jb (R:List Int) (N i:Nat) (hN:R.length=N) (hi:i < N):(R.take i++List.replicate (N - i) 0).set i (R.getD i 0)=R.take (i+1)++List.replicate (N - (i+1)) 0:=by
 have e:R.take (i+1)=R.take i++[R.getD i 0]:=by
  rw [x9,jZ (by omega),jM,jZ (by omega)]; rfl
 have hl:(R.take i).length=i:=by rw [dH]; omega
 rw [e,Aq _ _ (by rw [hl]; omega),hl,iL,show N - i=N - (i+1)+1 by omega,x8,u5,iO]; rfl
abbrev aKj:Cg:=U6 
theorem aRL:CfOk prog aKj.c:=gk <| aH
theorem aRM (x i:Nat) (hi:i <= 32) (h:x%256 ^ 32 < 256 ^ i):(lo 32 x).take i++List.replicate (32 - i) 0=lo 32 x:=by
 have hl:((lo 32 x).take i).length=i:=by rw [dH,fS]; omega
 refine aKb ?_ (vX ..) (by rw [cD,hl,IE,fS]; omega) ?_
 ·rw [aAK,Wc i (vX ..),aDi]; rfl
 ·rw [aIt,aNH,u9,fP,aDh _ _ (vX ..),Fa];exact aY h
theorem aKk (x:Nat) (hx:(nb x).length <= 1048576) (zs:List Int) (fu:Nat):∀ (d n i:Nat),i+d=min (nb x).length 32->d < n ->
  eV prog aKj fu Ya (Yb fu) n (some (Qt (nb x) (nb x).length (i:Int) zs ((lo 32 x).take i++List.replicate (32 - i) 0)))=some (pG (lo 32 x)):=by
 intro d
 induction d with
 | zero=>
  intro n i hi hn;obtain ⟨n,rfl⟩:=aP (by omega:n ≠ 0);have he:x%256 ^ 32 < 256 ^ i:=by
   rcases u7 32 (nb x).length with c | c
   ·have:i=32:=by omega
    subst this;exact bH _ (jF (by decide))
   ·have:i=(nb x).length:=by omega
    subst this;exact jS (Nat.mod_le _ _) (uE x)
  have hc:(decide ((i:Int) < ((nb x).length:Int)) && decide ((i:Int) < 32))=false:=by
   rcases u7 i (nb x).length with c | c
   ·rw [aJ (by omega:¬ (i:Int) < 32),S6]
   ·rw [aJ (by omega:¬ (i:Int) < ((nb x).length:Int)),tY]
  rw [aF,aKg,hc,aE,aR,aKh,aRM x i (by omega) he];rfl
 | succ d ih=>
  intro n i hi hn;obtain ⟨n,rfl⟩:=aP (by omega:n ≠ 0);have h:=ih n (i+1) (by omega) (by omega);have g:u8.wrap ((nb x).getD i 0)=(lo 32 x).getD i 0:=by
   rw [CU x i (by omega),Cw 32 x i (by omega),qD,aY (xY x i)]; rfl
  rw [aF,aKg,aD (by omega:(i:Int) < ((nb x).length:Int)),aD (by omega:(i:Int) < 32),mO,aB,aD (by omega),aB,aD (by omega),aB,bD,bT,g,Jb (lo 32 x) 32 i (fS ..) (by omega),bW (by omega) (by omega)];exact h
theorem bDu:CallOk prog 139 aZc:=by
 refine aZ (fu:=λ _=>40) aRL Tryz.func139 ?_;intro args t ht;obtain ⟨x,rfl,hx,rfl⟩:=M3 (F:=λ x=>lo 32 x) ht;refine (bDl ..).trans ?_;exact aKk x hx (List.replicate 32 0) 40 (min (nb x).length 32) 40 0 (by omega) (by omega)
theorem aRN {x:Nat} (h:(nb x).length <= 1048576):aO0 [eN x]=some (lo 32 x):=by
 simp only [aO0,aZc];exact Zq (λ x=>lo 32 x) h
theorem uF {x:Nat} (h:x < aK):(nb x).length <= 32:=dL (cZ h (by decide +kernel))
theorem A5 {x:Nat} (h:bP x=true):x < aK:=cY.mp h
theorem A6 {x:Nat} (h:x < aK):bP x=true:=cY.mpr h
abbrev bDv:Cg:=aXs (Nat) kY (λ t=>nb t) (λ t=>(nb t).length) (Nat) aHm (λ t=>nb t) (λ t=>(nb t).length)
theorem aRO:CfOk prog bDv.c:=gk <| aA vP <| aA Yd <| aH
theorem Qw:CallOk prog 98 aHn:=by
 refine fO aRO Tryz.func98 ?_;intro args t ht;obtain ⟨x,y,rfl,hx,hy,hc,rfl⟩:=qF (F:=λ a b=>(a+b)%aK) (C:=λ a b=>bP a && bP b) ht;rw [aW] at hc;have h1:=A5 hc.1;have h2:=A5 hc.2;refine (bDm ..).trans ?_;have ha:=jY hx hy;have hr:=Qv (x:=x+y) (by simp only [aK,i9] at *; omega);simp only [eN] at ha hr;rw [ha,aC,hr];rfl
theorem zJ {x y:Nat} (h1:x < aK) (h2:y < aK):IL [eN x,eN y]=some ((x+y)%aK):=by
 have l1:=uF h1;have l2:=uF h2;simp only [IL,aHn];exact Al (λ a b=>(a+b)%aK) (λ a b=>bP a && bP b) (by omega) (by omega) (by rw [A6 h1,A6 h2]; rfl)
abbrev bDw:Cg:=aXt (Nat) rRP (λ t=>nb t) (λ t=>(nb t).length) (Nat) kY (λ t=>nb t) (λ t=>(nb t).length) (Nat) rY (λ t=>nb t) (λ t=>(nb t).length) (Nat) aHm (λ t=>nb t) (λ t=>(nb t).length)
theorem aRP:CfOk prog bDw.c:=gk <| aA OX <| aA vP <| aA zW <| aA Yd <| aH
theorem GC:CallOk prog 92 aHo:=by
 refine fO aRP Tryz.func92 ?_;intro args t ht;obtain ⟨x,y,rfl,hx,hy,hc,rfl⟩:=qF (F:=λ a b=>(a+aK - b)%aK) (C:=λ a b=>bP a && bP b) ht;rw [aW] at hc;have h1:=A5 hc.1;have h2:=A5 hc.2;refine (bDn ..).trans ?_;have ha:=jY (y:=aK) hx (by rw [Yc]; omega);have hl:(nb (x+aK)).length <= 33:=dL (by simp only [aK,Nat.reducePow] at *; omega);have hs:=rO (x:=x+aK) (y:=y) (by omega) hy (by omega);have hr:=Qv (x:=x+aK - y) (by simp only [aK,i9] at *; omega);simp only [eN] at ha hr hs;rw [Hp,aC,ha,aC,hs,aC,hr];rfl
theorem pW {x y:Nat} (h1:x < aK) (h2:y < aK):Ay [eN x,eN y]=some ((x+aK - y)%aK):=by
 have l1:=uF h1;have l2:=uF h2;simp only [Ay,aHo];exact Al (λ a b=>(a+aK - b)%aK) (λ a b=>bP a && bP b) (by omega) (by omega) (by rw [A6 h1,A6 h2]; rfl)
abbrev bDx:Cg:=aXu (Nat) xJ (λ t=>nb t) (λ t=>(nb t).length) (Nat) aHm (λ t=>nb t) (λ t=>(nb t).length)
theorem aRQ:CfOk prog bDx.c:=gk <| aA H7 <| aA Yd <| aH
theorem aRR {x y:Nat} (h1:x < aK) (h2:y < aK):x*y < i9:=jS (jT (As h1) (As h2)) (by decide +kernel)
theorem xN:CallOk prog 91 aHp:=by
 refine fO aRQ Tryz.func91 ?_;intro args t ht;obtain ⟨x,y,rfl,hx,hy,hc,rfl⟩:=qF (F:=λ a b=>a*b%aK) (C:=λ a b=>bP a && bP b) ht;rw [aW] at hc;have h1:=A5 hc.1;have h2:=A5 hc.2;refine (bDo ..).trans ?_;have ha:=En hx hy;have hr:=Qv (x:=x*y) (aRR h1 h2);simp only [eN] at ha hr;rw [ha,aC,hr];rfl
theorem bQ {x y:Nat} (h1:x < aK) (h2:y < aK):qV [eN x,eN y]=some (x*y%aK):=by
 have l1:=uF h1;have l2:=uF h2;simp only [qV,aHp];exact Al (λ a b=>a*b%aK) (λ a b=>bP a && bP b) (by omega) (by omega) (by rw [A6 h1,A6 h2]; rfl)
abbrev aRS:Cg:=aKi 
theorem aKl:CfOk prog aRS.c:=gk <| aH
theorem Qx:CallOk prog 96 aHq:=by
 refine fO aKl Tryz.func96 ?_;intro args t ht;obtain ⟨x,rfl,hx,rfl⟩:=M3 (F:=λ a=>Nat.beq (a%2) 1) ht;refine (aRH ..).trans ?_;show _=some (AV.bool (Nat.beq (x%2) 1));by_cases h:(nb x).length=0
 ·have h0:=(vY x).1 h;rw [aJ (by omega),aE,h0]; rfl
 ·have hd:=CU x 0 (by omega);rw [dg,iY,yA] at hd;have e:(((nb x).getD 0 0).tmod 2=1) ↔ x%2=1:=by
   rw [hd,mQ (by omega)]; omega
  rw [aD (by omega),aB,aD (by omega),aB,xZ,mA.2 e]
theorem B4 {x:Nat} (h:(nb x).length <= 1048576):IM [eN x]=some (Nat.beq (x%2) 1):=by
 simp only [IM,aHq];exact Zq (λ a=>Nat.beq (a%2) 1) h
abbrev bDy:Cg:=aXv (Bool) IM (λ t=>t) (Nat) Ay (λ t=>nb t) (λ t=>(nb t).length)
theorem aRT:CfOk prog bDy.c:=gk <| aA Qx <| aA GC <| aH
theorem eN0:AV.s (SV.dat (TRow.ints i64 []) 0 1)=eN 0:=rfl
theorem Jc:CallOk prog 100 aAl:=by
 refine fO aRT Tryz.func100 ?_;intro args t ht;unfold aAl oO at ht;simp only at ht;split at ht
 ·rename_i a n;obtain ⟨h1,h2⟩:=bO ht;rw [aW] at h1;obtain ⟨x,rfl,rfl,hx,ex⟩:=qE h1.1;have h3:=A5 h1.2;rw [ex] at h3 h2;subst h2;refine (bDp ..).trans ?_;have ho:=B4 hx;have hs:=pW (x:=0) (y:=x) (by decide) h3;rw [<-eN0] at hs;simp only [eN] at ho hs;rw [ho,aC];show _=some (eN (q9 x));rw [q9];cases Nat.beq (x%2) 1
  ·rfl
  ·rw [aB,hs]; rfl
 ·cases ht
theorem B5 {x:Nat} (h:x < aK):FM [eN x]=some (q9 x):=by
 have l:=uF h;simp only [FM,aAl,oO,eN];rw [oX (by omega),gN,A6 h]; rfl
set_option maxRecDepth 4000
abbrev bDz:Cg:=aXx (PUnit) gM
theorem aRU:CfOk prog bDz.c:=gk <| aA Xf <| aH
theorem Lg:CallOk prog 146 gE:=by
 refine fO aRU Tryz.func146 ?_;intro args t ht;unfold gE at ht;simp only at ht;split at ht
 ·exact (bDr ..).trans rfl
 ·cases ht
theorem bDA:jW (aN (vV (fe 2)) (fe 2)) (fe 1)=true:=by decide +kernel
theorem bDB:FK (vV (fe 2))=false:=by decide +kernel
abbrev bDC:Cg:=aXw (Fe) JB (λ t=>↑t.a) (λ t=>↑t.b) (λ t=>↑t.c) (λ t=>↑t.d) (λ t=>↑t.e) (Fe) aHi (λ t=>↑t.a) (λ t=>↑t.b) (λ t=>↑t.c) (λ t=>↑t.d) (λ t=>↑t.e) (PUnit) gM (Fe) iA (λ t=>↑t.a) (λ t=>↑t.b) (λ t=>↑t.c) (λ t=>↑t.d) (λ t=>↑t.e) (Bool) XE (λ t=>t) (Bool) aOY (λ t=>t) (Fe) BO (λ t=>↑t.a) (λ t=>↑t.b) (λ t=>↑t.c) (λ t=>↑t.d) (λ t=>↑t.e)
theorem aRV:CfOk prog bDC.c:=gk <| aA AB <| aA XK <| aA Lg <| aA kV <| aA Kf <| aA aHN <| aA Ja <| aH
def awS:Str:=[53,55,56,57,54,48,52,52,54,49,56,54,53,56,48,57,55,55,49,49,55,56,53,52,57,50,53,48,52,51,52,51,57,53,51,57,50,54,54,51,52,57,57,50,51,51,50,56,50,48,50,56,50,48,49,57,55,50,56,55,57,50,48,48,51,57,53,54,53,54,52,56,49,57,57,53,48]
theorem bDD:jW (fe ((z8 awS).1%aK)) (fe 1)=true:=by decide +kernel
theorem Ye:CallOk prog 209 gE:=by
 refine fO aRV Tryz.func209 ?_;intro args t ht;unfold gE at ht;simp only at ht;split at ht
 ·have o1:=lV (n:=1) (by decide);have o2:=lV (n:=2) (by decide);have hi:=HG (low:=235) (cA 2) (i:=255) (cA 1);have i1:=Pw (cA 2);have m1:=bF (x:=vV (fe 2)) hi (cA 2);have s1:=rV (aL (x:=vV (fe 2)) hi (cA 2)) (cA 1);have z1:=aAp (x:=vV (fe 2)) hi;have d1:=nW (s:=awS) (by decide +kernel);have s2:=rV (cA ((z8 awS).1%aK)) (cA 1);rw [bDA] at s1;rw [bDB] at z1;rw [bDD] at s2;simp only [eF] at i1 m1 s1 z1 s2;rw [show ((1:Nat):Int)=1 from rfl] at o1;rw [show ((2:Nat):Int)=2 from rfl] at o2;refine (bDq ..).trans ?_;rw [o2,aC,i1,aC,show gM []=some () from rfl,aC,aC,m1,aC,o1,aC,s1,aC,aB,z1,aC,jB,aB];refine (dW (λ o=>Option.bind o _) d1).trans ?_;rw [aC,aC,s2];rfl
 ·cases ht
end
end Go.Eng
