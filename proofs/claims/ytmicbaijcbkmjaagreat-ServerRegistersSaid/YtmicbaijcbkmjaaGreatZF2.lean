import Derived.Test.YtmicbaijcbkmjaaGreatZF1
namespace Go.Eng
open Go.IntKind (u64 i64 u8)
noncomputable section
open Go Go.Proofs
set_option linter.all false
set_option maxRecDepth 4000
abbrev aDS:Cg:=CH (Int) rOf (λ t=>[t,0,0,0,0,0,0,0]) (Nat) qM (λ t=>cQ 8 t) (Nat × Bool) TL (λ t=>cQ 8 t.fst) (λ t=>t.snd) (Nat × Nat × Int) aSj (λ t=>cQ 8 t.fst) (λ t=>cQ 8 t.snd.fst) (λ t=>t.snd.snd)
theorem aJ6:CfOk prog aDS.c:=gk <| aA Wo <| aA I6 <| aA Nd <| aA aSk <| aK
theorem aJ7 (n:Nat):(cQ 8 n).getD 0 0=((n%18446744073709551616:Nat):Int):=by
 have:=wG 8 0 n (by omega);rwa [jL,uS] at this
theorem aDT (n:Nat):d8 .u64 ((cQ 8 n).getD 0 0) 2251799813685247=((n%2251799813685248:Nat):Int):=by
 rw [aJ7,msk _ (bK _ (by decide))];congr 1;omega
theorem shN {r k:Nat} (h:k < 512) (hk:0 < k):xQ r (-(k:Int))=r / 2 ^ k:=by
 unfold xQ;rw [aH (by omega),aH (by omega),Cu,aD,aE (by omega),aB,Ap,bE]
theorem Wi:CallOk prog 162 aE5:=by
 refine aZ (fu:=λ _=>6) aJ6 Tryz.func162 ?_;intro args t ht;obtain ⟨a,rfl,ha,rfl⟩:=xL (F:=λ a=>fe (val a%aJ)) ht;refine (aUu ..).trans ?_;have s1:qM [AV.agg (TRow.ints u64 [1,0,0,0,0,0,0,0]) 8,AV.int i64 255]=some 57896044618658097711785492504343953926634992332820282019728792003956564819968:=(vX (b:=[1,0,0,0,0,0,0,0]) (by decide) 255).trans (by decide +kernel);have s2:TL [AV.agg (TRow.ints u64 (cQ 8 57896044618658097711785492504343953926634992332820282019728792003956564819968)) 8,AV.agg (TRow.ints u64 [19,0,0,0,0,0,0,0]) 8]=some (fK+aJ,true) :=
  (Mj (fA _) (b:=[19,0,0,0,0,0,0,0]) (by decide)).trans (by decide +kernel)
 have s3:aSj [AV.agg (TRow.ints u64 a) 8,AV.agg (TRow.ints u64 (cQ 8 (fK+aJ))) 8]=some (val a / aJ,val a%aJ,0):=by
  refine (aJp ha (fA _)).trans ?_;have:val (cQ 8 (fK+aJ))=aJ:=by decide +kernel
  rw [IR,this,aW (by decide)]
 have o1:rOf [AV.int u64 1]=some 1:=rfl;have o2:rOf [AV.int u64 19]=some 19:=rfl;rw [o1,aC,s1,aC,o2,aC,s2,aC,s3,aC];show eS prog aDS 6 AH _ 6 (some _)=_;dsimp only;have hr:val a%aJ < aJ:=eM _;generalize val a%aJ=r at *;have hv:val (cQ 8 r)=r:=by
  rw [kM]; exact aV (fC hr (by decide))
 have h:∀ k:Nat,0 < k->k < 512->qM [AV.agg (TRow.ints u64 (cQ 8 r)) 8,AV.int i64 (-(k:Int))]=some (r / 2 ^ k):=λ k h0 h1=>by
  refine (vX (fA r) _).trans ?_;rw [hv,shN h1 h0]
 have h0:qM [AV.agg (TRow.ints u64 (cQ 8 r)) 8,AV.int i64 0]=some r:=by
  refine (vX (fA r) _).trans ?_;rw [hv]; simp [xQ]
 have t1:qM [AV.agg (TRow.ints u64 (cQ 8 r)) 8,AV.int i64 (-51)]=some (r / 2251799813685248):=h 51 (by omega) (by omega);have t2:qM [AV.agg (TRow.ints u64 (cQ 8 r)) 8,AV.int i64 (-102)]=some (r / 5070602400912917605986812821504):=h 102 (by omega) (by omega);have t3:qM [AV.agg (TRow.ints u64 (cQ 8 r)) 8,AV.int i64 (-153)]=some (r / 11417981541647679048466287755595961091061972992):=h 153 (by omega) (by omega);have t4:qM [AV.agg (TRow.ints u64 (cQ 8 r)) 8,AV.int i64 (-204)]=some (r / 25711008708143844408671393477458601640355247900524685364822016):=h 204 (by omega) (by omega);rw [aF,aUZ,h0,aC,aDT,aF,aU0,t1,aC,aDT,aF,aU1,t2,aC,aDT,aF,aU2,t3,aC,aDT,aF,aU3,t4,aC,aDT,aF,aU4,aR,aFq];rfl
theorem Qg {a:List Int} (h:jO a=true):LR [W8 a]=some (fe (val a%aJ)):=by
 simp only [LR,aE5];exact vZ (λ a=>fe (val a%aJ)) h
abbrev aS5:Cg:=aPl (Nat × Int) DN (λ t=>cQ 8 t.fst) (λ t=>t.snd) (Fe) LR (λ t=>↑t.a) (λ t=>↑t.b) (λ t=>↑t.c) (λ t=>↑t.d) (λ t=>↑t.e)
theorem aJ8:CfOk prog aS5.c:=gk <| aA CX <| aA Wi <| aK
theorem aJ9 (s:Str):(z6 s).1 < fK:=by
 unfold z6;cases wA s
 ·exact IQ
 ·rw [aB];cases h:Nat.blt (tS 0 s) fK
  ·exact IQ
  ·exact dL.mp h
theorem HH:CallOk prog 131 JB:=by
 refine i7 aJ8 Tryz.func131 ?_;intro args t ht;unfold JB at ht;simp only at ht;split at ht
 ·rename_i s;obtain ⟨h1,h2⟩:=cC ht;subst h2;refine (aUv ..).trans ?_;have c:=Qg (fA (z6 s).1);rw [kM,aV (aJ9 s),W8] at c;rw [GE (jN h1),aC];show (LR [AV.agg (TRow.ints u64 (cQ 8 (z6 s).1)) 8]).bind _=_;rw [c]; rfl
 ·cases ht
theorem nG {s:Str} (h:s.length <= 1099511627776):CG [.str s]=some (fe ((z6 s).1%aJ)):=by
 simp only [CG,JB];rw [aE h]; rfl
theorem j3 {a:List Int} (h:fR a=true):a.length=32 /\ jE a=true:=by
 simp only [fR,aX] at h;exact ⟨aS h.1,h.2⟩
theorem nI {T:Type} {F:List Int->T} {args:List AV} {t:T} (h:wK F args=some t):∃ a,args=[lS a] /\ fR a=true /\ t=F a:=by
 unfold wK at h;split at h
 ·obtain ⟨h1,h2⟩:=cC h;exact ⟨_,rfl,h1,h2.symm⟩
 ·cases h
theorem xO {T:Type} (F:List Int->T) {a:List Int} (h:fR a=true):wK F [lS a]=some (F a):=by
 simp only [wK,lS];rw [h]; rfl
theorem aS6:∀ n:Fin 256,d8 u8 (n.1:Int) 127=((n.1%128:Nat):Int):=by decide +kernel
theorem aS7 {a:List Int} (h:fR a=true):jE (a.set 31 (d8 .u8 (a.getD 31 0) 127))=true /\ vB (a.set 31 (d8 .u8 (a.getD 31 0) 127))=vB a%Do:=by
 obtain ⟨hl,hb⟩:=j3 h;obtain ⟨g0,g1⟩:=Jh hb 31;obtain ⟨n,hn⟩:=b9 g0;have hn':n < 256:=by omega
 rw [hn,show d8 .u8 (n:Int) 127=((n%128:Nat):Int) from aS6 ⟨n,hn'⟩];refine ⟨Ol a 31 (n%128) hb (by omega),?_⟩;have h1:=Ux a 31 (n%128) (by omega) hb;rw [hn,bE] at h1;have h2:=GD a hb;rw [hl] at h2;have h3:n=vB a / 256 ^ 31:=by
  have e:=A2 32 (vB a) 31 (by omega);rw [<-hl,Ic a hb,hn] at e;have:=Int.ofNat.inj e;rw [this];exact aV (by simp only [Nat.reducePow] at h2 ⊢; omega)
 simp only [Nat.reducePow,Do] at *;omega
abbrev aS8:Cg:=aPm (Nat × Int) TU (λ t=>cQ 8 t.fst) (λ t=>t.snd) (Fe) LR (λ t=>↑t.a) (λ t=>↑t.b) (λ t=>↑t.c) (λ t=>↑t.d) (λ t=>↑t.e)
theorem aKa:CfOk prog aS8.c:=gk <| aA P6 <| aA Wi <| aK
theorem Qh:CallOk prog 157 UN:=by
 refine i7 aKa Tryz.func157 ?_;intro args t ht;obtain ⟨a,rfl,ha,rfl⟩:=nI (F:=rU) ht;obtain ⟨hl,hb⟩:=j3 ha;obtain ⟨k1,k2⟩:=aS7 ha;refine (aUw ..).trans ?_;have hlen:(a.set 31 (d8 .u8 (a.getD 31 0) 127)).length=32:=by rw [Fx,hl]
 rw [kU,fB (by omega),Kt (by rw [iA,hlen]; omega),aC,iA,hlen,show Nat.blt 64 32=false from rfl,aD,YM k1,k2];have c:=Qg (fA (vB a%Do));rw [kM,aV (a:=vB a%Do) (b:=fK) (fC (bK _ (by decide)) (by decide)),W8] at c;show (LR [AV.agg (TRow.ints u64 (cQ 8 (vB a%Do))) 8]).bind _=_;rw [c]; rfl
theorem LH {a:List Int} (h:fR a=true):N1 [lS a]=some (rU a):=by
 simp only [N1,UN];exact xO rU h
abbrev NM:Cg:=Dq (Fe) pO (λ t=>↑t.a) (λ t=>↑t.b) (λ t=>↑t.c) (λ t=>↑t.d) (λ t=>↑t.e)
theorem aKb:CfOk prog NM.c:=gk <| aA A9 <| aK
theorem aZ6 (x y:Nat) (hx:x < 256) (hy:y < 256):Du .u8 (x:Int) (y:Int)=((x ||| y:Nat):Int):=by
 unfold Du;have e:(BitVec.ofInt (IntKind.bits .u8) (x:Int) ||| BitVec.ofInt (IntKind.bits .u8) (y:Int)).toNat=x ||| y:=by
  show (BitVec.ofInt 8 (x:Int) ||| BitVec.ofInt 8 (y:Int)).toNat=x ||| y;rw [BitVec.toNat_or,Yf,Yf,Sh,Sh,aV (by omega),aV (by omega)]
 rw [e,Db,aV];exact Hp (n:=8) hx hy
theorem aZ7:∀ (b:Fin 2) (r:Fin 8),j9 .u8 (u8.wrap (b.1:Int)) (r.1:Int)=((b.1*2 ^ r.1:Nat):Int):=by decide +kernel
theorem aS9 (q:Nat):256 ^ q=2 ^ (8*q):=by rw [show 256=2 ^ 8 from rfl,<-jK]
theorem aTa (x b r:Nat) (hx:x < 2 ^ r) (hb:b < 2):x ||| b*2 ^ r=x+b*2 ^ r:=by
 rcases (by omega:b=0 ∨ b=1) with rfl | rfl
 ·simp
 ·rw [pV]; exact aD6 x r hx
theorem aDU {a b:List Int} (ha:jE a=true) (hb:jE b=true) (hl:a.length=b.length) (h:vB a=vB b):a=b:=by
 rw [<-Ic a ha,<-Ic b hb,hl,h]
theorem aKc (n t:Nat) (ht:t < 255):(lo 32 (n%2 ^ t)).set (t / 8) (Du .u8 ((lo 32 (n%2 ^ t)).getD (t / 8) 0) (j9 .u8 (u8.wrap ((n / 2 ^ t%2:Nat):Int)) ((t%8:Nat):Int)))=lo 32 (n%2 ^ (t+1)):=by
 have hb:n / 2 ^ t%2 < 2:=bK _ (by decide);generalize hbit:n / 2 ^ t%2=b at *;have e1:n%2 ^ (t+1)=n%2 ^ t+b*2 ^ t:=by
  rw [bM,uU,hbit,cG]
 have hm:n%2 ^ t < 2 ^ t:=bK _ (Nat.two_pow_pos t);rw [e1];generalize n%2 ^ t=m at *;have hs:2 ^ t=2 ^ (8*(t / 8))*2 ^ (t%8):=by rw [<-dM]; congr 1; omega
 have hq:m / 256 ^ (t / 8) < 2 ^ (t%8):=by
  rw [aS9,BU (Nat.two_pow_pos _),cG,<-hs]; exact hm
 have h8:2 ^ (t%8) <= 128:=iK (n:=2) (by omega) (by omega:t%8 <= 7);have hbr:b*2 ^ (t%8) <= 128:=by
  rcases (by omega:b=0 ∨ b=1) with rfl | rfl <;> omega
 have e0:j9 .u8 (u8.wrap (b:Int)) ((t%8:Nat):Int)=((b*2 ^ (t%8):Nat):Int):=aZ7 ⟨b,hb⟩ ⟨t%8,by omega⟩;rw [A2 32 m (t / 8) (by omega),aV (a:=m / 256 ^ (t / 8)) (by omega),e0,aZ6 _ _ (by omega) (by omega),aTa _ _ _ hq hb];have pm:2 ^ t < 2 ^ 255:=Nat.pow_lt_pow_right (by decide) ht;have hbt:b*2 ^ t <= 2 ^ t:=by
  rcases (by omega:b=0 ∨ b=1) with rfl | rfl <;> omega
 refine aDU (Ol _ _ _ (sW ..) (by omega)) (sW ..) (by rw [Fx,i4,i4]) ?_;have h1:=Ux (lo 32 m) (t / 8) (m / 256 ^ (t / 8)+b*2 ^ (t%8)) (by rw [i4]; omega) (sW ..);rw [A2 32 m (t / 8) (by omega),bE,aV (a:=m / 256 ^ (t / 8)) (by omega),GC,aV (a:=m) (by simp only [Nat.reducePow] at pm ⊢; omega),uW] at h1;rw [GC,aV (a:=m+b*2 ^ t) (by simp only [Nat.reducePow] at pm ⊢; omega)];have e2:256 ^ (t / 8)*(b*2 ^ (t%8))=b*2 ^ t:=by
  rw [hs,aS9,Eg]
 rw [e2] at h1;omega
theorem aTb (n i k:Nat) (hk:k < 51):d8 .u64 (eK .u64 ((n / 2 ^ (51*i)%2251799813685248:Nat):Int) (k:Int)) 1=((n / 2 ^ (51*i+k)%2:Nat):Int):=by
 rw [mV _ k (by omega),aKw _ (iI (pQ ..) (fC (bK _ (by decide)) (by decide)))];congr 1;rw [show (2251799813685248:Nat)=2 ^ k*2 ^ (51 - k) by rw [<-dM,show k+(51 - k)=51 by omega],Ho,gR,<-dM];exact Nat.mod_mod_of_dvd _ (pR (by decide:2 ∣ 2 ^ 1) (Nat.pow_dvd_pow 2 (by omega)))
theorem aYf {β:Type} (n:Nat) (xs zs:List Int) (fu:Nat) (G:FG β) (H:FH β) (i:Nat) (hi:i < 5):∀ (d m k:Nat),k+d=51->d < m ->
  eS prog NM fu UQ (UR _ pO (λ t=>(t.a:Int)) (λ t=>(t.b:Int)) (λ t=>(t.c:Int)) (λ t=>(t.d:Int)) (λ t=>(t.e:Int)) fu G H) m
   (some (N4 (i:Int) ((n / 2 ^ (51*i)%2251799813685248:Nat):Int) xs (i:Int) (k:Int) zs (lo 32 (n%2 ^ (51*i+k)))))=G (some (JE xs ((i+1:Nat):Int) zs (lo 32 (n%2 ^ (51*(i+1)))))):=by
 intro d
 induction d with
 | zero=>
  intro m k hk hm;obtain ⟨m,rfl⟩:=aP (by omega:m ≠ 0);have e:k=51:=by omega
  subst e;rw [aF,aFm,aH (by omega),aD,aR,aFo,bY (by omega) (by omega)];rfl
 | succ d ih=>
  intro m k hk hm;obtain ⟨m,rfl⟩:=aP (by omega:m ≠ 0);have h:=ih m (k+1) (by omega) (by omega);have e1:i64.wrap (i64.wrap (51*(i:Int))+(k:Int))=((51*i+k:Nat):Int):=by
   rw [bY (n:=51*(i:Int)) (by omega) (by omega),bY (by omega) (by omega)]; omega
  have e2:i64.wrap ((((51*i+k:Nat):Int)).tdiv 8)=(((51*i+k) / 8:Nat):Int):=by
   rw [rF (by omega),bY (by omega) (by omega)]; omega
  have e3:(((51*i+k:Nat):Int)).tmod 8=(((51*i+k)%8:Nat):Int):=by
   rw [lM (by omega)]; omega
  rw [aF,aFm,aE (by omega),aB,e1,e2,e3,aE (by omega),aB,aH (by omega),aD,aH (by omega),aD,aB,bE,bS,aTb n i k (by omega),aKc n (51*i+k) (by omega),bY (by omega) (by omega)];exact h
theorem aTc (n:Nat) (zs:List Int) (fu:Nat) (hfu:51 < fu):∀ (d m i:Nat),i+d=5->d < m ->
  eS prog NM fu FC (JF _ pO (λ t=>(t.a:Int)) (λ t=>(t.b:Int)) (λ t=>(t.c:Int)) (λ t=>(t.d:Int)) (λ t=>(t.e:Int)) fu) m
   (some (JE [((fe n).a:Int),(fe n).b,(fe n).c,(fe n).d,(fe n).e] (i:Int) zs (lo 32 (n%2 ^ (51*i)))))=some (lS (lo 32 (n%2 ^ 255))):=by
 intro d
 induction d with
 | zero=>
  intro m i hi hm;obtain ⟨m,rfl⟩:=aP (by omega:m ≠ 0);have e:i=5:=by omega
  subst e;rw [aF,aFl,aH (by omega),aD,aR,aFn]; rfl
 | succ d ih=>
  intro m i hi hm;obtain ⟨m,rfl⟩:=aP (by omega:m ≠ 0);have h:=ih m (i+1) (by omega) (by omega);rw [aF,aFl,aE (by omega),aB,aE (by omega),aB,bE];have g:=aYf n [((fe n).a:Int),(fe n).b,(fe n).c,(fe n).d,(fe n).e] zs fu (eS prog NM fu FC (JF _ pO (λ t=>(t.a:Int)) (λ t=>(t.b:Int)) (λ t=>(t.c:Int)) (λ t=>(t.d:Int)) (λ t=>(t.e:Int)) fu) m)
   (Ak (JF _ pO (λ t=>(t.a:Int)) (λ t=>(t.b:Int)) (λ t=>(t.c:Int)) (λ t=>(t.d:Int)) (λ t=>(t.e:Int)) fu)) i (by omega) 51 fu 0 (by omega) hfu
  rw [fH] at g;have hg:([((fe n).a:Int),(fe n).b,(fe n).c,(fe n).d,(fe n).e]:List Int).getD i 0=((n / 2 ^ (51*i)%2251799813685248:Nat):Int):=by
   have hi5:i < 5:=by omega
   clear hi h g ih
   match i,hi5 with
   | n+5,h=>exact absurd h (by omega)
   | 0,_=>simp [fe]
   | 1,_=>rfl
   | 2,_=>rfl
   | 3,_=>rfl
   | 4,_=>rfl
  rw [hg];exact g.trans h
theorem LI:CallOk prog 86 N0:=by
 refine aZ (fu:=λ _=>60) aKb Tryz.func86 ?_;intro args t ht;obtain ⟨x,rfl,hx,rfl⟩:=qB (F:=λ x=>lo 32 (fv x%aJ)) ht;have c:=tE hx;simp only [eF] at c;refine (aUr ..).trans ?_;rw [c,aC];have h:=aTc (fv x%aJ) (List.replicate 32 0) 60 (by omega) 5 60 0 (by omega) (by omega);rw [aV (a:=fv x%aJ) (b:=2 ^ 255) (fC (eM _) (by decide +kernel)),sM,jL,uV] at h;exact h
theorem Iu {x:Fe} (h:cN x):A7 [eF x]=some (lo 32 (fv x%aJ)):=by
 simp only [A7,N0];exact AJ (λ x=>lo 32 (fv x%aJ)) h
theorem aKd (a:List Int):fv (rU a)=vB a%Do%aJ:=CF (fC (eM _) (by decide))
abbrev aTd:Cg:=aPn (Fe) N1 (λ t=>↑t.a) (λ t=>↑t.b) (λ t=>↑t.c) (λ t=>↑t.d) (λ t=>↑t.e) (List Int) A7 (λ t=>t)
theorem aKe:CfOk prog aTd.c:=gk <| aA Qh <| aA LI <| aK
theorem Qi {a:List Int} (ha:fR a=true):(lo 32 (fv (rU a)%aJ)=a) ↔ vB a < aJ:=by
 obtain ⟨hl,hb⟩:=j3 ha;have h2:=GD a hb;rw [hl] at h2;rw [aKd,sL];constructor
 ·intro h;have:=dQ vB h;rw [GC,aV (fC (eM _) (by decide +kernel))] at this;rw [<-this]; exact eM _
 ·intro h;rw [aV (fC h (by decide)),aV h,<-hl];exact Ic a hb
theorem Zn:CallOk prog 117 HN:=by
 refine i7 aKe Tryz.func117 ?_;intro args t ht;obtain ⟨a,rfl,ha,rfl⟩:=nI (F:=E8) ht;have c:=LH ha;have c2:=Iu (cV (vB a%Do%aJ));simp only [lS] at c;simp only [eF] at c2;refine (aUx ..).trans ?_;rw [c,aC];show ((A7 [AV.agg (TRow.ints u64 [((fe (vB a%Do%aJ)).a:Int),(fe (vB a%Do%aJ)).b,(fe (vB a%Do%aJ)).c,(fe (vB a%Do%aJ)).d,(fe (vB a%Do%aJ)).e]) 5]).bind λ (dH:List Int)=>_)=_;rw [c2,aC];show _=some (HN.enc (E8 a));by_cases h:vB a < aJ
 ·have hs:lo 32 (fv (fe (vB a%Do%aJ))%aJ)=a:=(Qi ha).2 h;have hp:E8 a=(fe (vB a),0):=by rw [E8,dL.mpr h]; rfl
  have hf:rU a=fe (vB a):=by
   rw [rU,aV (a:=vB a) (fC h (by decide)),aV h]
  rw [aE hs,hp,jW,aD,hf];rfl
 ·have hs:¬ lo 32 (fv (fe (vB a%Do%aJ))%aJ)=a:=λ e=>h ((Qi ha).1 e);have hp:E8 a=(f0,7):=by
   rw [E8];cases hb:Nat.blt (vB a) aJ
   ·rfl
   ·exact absurd (dL.mp hb) h
  rw [aH hs,hp];rfl
theorem Te {a:List Int} (h:fR a=true):N2 [lS a]=some (E8 a):=by
 simp only [N2,HN];exact xO E8 h
section
variable (T0:Type) (R0:FA T0) (aG:T0->List Int) (aM:T0->Nat) (cB:T0->Bool)
def aOQ:Cg:=⟨⟨dE [(102,⟨R0,λ t=>AV.tup [.s (dI (aG t) (aM t)),.s (.pl (.bool (cB t)))]⟩)],[],dR⟩,[]⟩
theorem aTe (fu:Nat) (s:Str):bB prog Tryz.f56 (aOQ T0 R0 aG aM cB) fu [.str s]=(R0 [.str s]).bind λ t=>some (AV.s (dI (aG t) (aM t))):=by kernel_rfl
end
section
variable (T0:Type) (R0:FA T0) (aG:T0->List Int) (aM:T0->Nat)
def aOR:Cg:=⟨⟨dE [(56,⟨R0,λ t=>AV.s (dI (aG t) (aM t))⟩)],[],dR⟩,[]⟩
theorem aTf (fu:Nat):bB prog Tryz.f45 (aOR T0 R0 aG aM) fu []=(R0 [.str ([(53:UInt8),55,56,57,54,48,52,52,54,49,56,54,53,56,48,57,55,55,49,49,55,56,53,52,57,50,53,48,52,51,52,51,57,53,51,57,50,54].append [(54:UInt8),51,52,57,57,50,51,51,50,56,50,48,50,56,50,48,49,57,55,50,56,55,57,50,48,48,51,57,53,54,53,54,52,56,49,57,57,52,57])]).bind λ t=>some (AV.s (dI (aG t) (aM t))):=by kernel_rfl
end
section
variable (T0:Type) (R0:FA T0) (aG:T0->List Int) (aM:T0->Nat) (T1:Type) (R1:FA T1) (aN:T1->List Int) (bI:T1->Nat) (T2:Type) (R2:FA T2) (bC:T2->List Int) (bW:T2->Nat) (T3:Type) (R3:FA T3) (bO:T3->Int) (T4:Type) (R4:FA T4) (eV:T4->List Int) (jS:T4->Nat)
def AB:Cg:=⟨⟨dE [(94,⟨R0,λ t=>AV.s (dI (aG t) (aM t))⟩),(53,⟨R1,λ t=>AV.s (dI (aN t) (bI t))⟩),(45,⟨R2,λ t=>AV.s (dI (bC t) (bW t))⟩),(44,⟨R3,λ t=>AV.int .i64 (bO t)⟩),(55,⟨R4,λ t=>AV.s (dI (eV t) (jS t))⟩)],[],dR⟩,[(2,[0],[0]),(5,[0,3],[0,3]),(9,[0,4],[0])]⟩
def NN (x0:List Int) (n0:Nat):St:={ tm:=[(0,.s (dI x0 n0))],hp:=[],nx:=0,sz:=41 }
def Tf:Code:=cM (bN [1,0,2] (bD Tryz.f93))
def NO (fu:Nat):=lP prog (AB T0 R0 aG aM T1 R1 aN bI T2 R2 bC bW T3 R3 bO T4 R4 eV jS) fu [1,0,2] (bD Tryz.f93) (fT prog Tryz.f93)
abbrev aTg (fu:Nat) (x0:List Int) (n0:Nat):=eS prog (AB T0 R0 aG aM T1 R1 aN bI T2 R2 bC bW T3 R3 bO T4 R4 eV jS) fu Tf (NO T0 R0 aG aM T1 R1 aN bI T2 R2 bC bW T3 R3 bO T4 R4 eV jS fu ) fu (some (NN x0 n0))
theorem aTh (fu:Nat) (x:Nat):bB prog Tryz.f93 (AB T0 R0 aG aM T1 R1 aN bI T2 R2 bC bW T3 R3 bO T4 R4 eV jS) fu [eN x]=aTg T0 R0 aG aM T1 R1 aN bI T2 R2 bC bW T3 R3 bO T4 R4 eV jS fu (nb x) (nb x).length:=by kernel_rfl
def Iv (x0:List Int) (n0:Nat):St:={ tm:=[(0,.s (dI x0 n0))],hp:=[],nx:=0,sz:=41 }
theorem Tg {β:Type} (fu:Nat) (G:FG β) (H:FH β) (x0:List Int) (n0:Nat):fI prog (AB T0 R0 aG aM T1 R1 aN bI T2 R2 bC bW T3 R3 bO T4 R4 eV jS) fu Tf G H (NN x0 n0)=bif decide (32 < (n0:Int)) then bif decide ((0:Int) <= 0 /\ (0:Int) <= 32 /\ (32:Int) <= 32 /\ 32 <= (n0:Int)) then bif decide ((0:Int) <= 32 /\ 32 <= (n0:Int) /\ (n0:Int) <= (n0:Int)) then (R0 [.s (.dat (.ints .i64 (List.take (((n0:Int) - 32).toNat*1) (List.drop 32 x0))) ((n0:Int) - 32).toNat 1),.s (dI [38] 1)]).bind λ t=>(R1 [.s (dI (List.take 32 (List.drop 0 x0)) 32),.s (dI (aG t) (aM t))]).bind λ t=>G (some (NN (aN t) (bI t))) else none else none else H (Ex.exit 0) (some (Iv x0 n0)):=by kernel_rfl
def NP (x0:List Int) (n0:Nat) (v3:Int):St:={ tm:=[(0,.s (dI x0 n0)),(3,.int .i64 v3)],hp:=[],nx:=0,sz:=41 }
def NQ:Code:=cM (bN [1,1,1,0,2] (bD Tryz.f93))
def aDV (fu:Nat):=lP prog (AB T0 R0 aG aM T1 R1 aN bI T2 R2 bC bW T3 R3 bO T4 R4 eV jS) fu [1,1,1,0,2] (bD Tryz.f93) (fT prog Tryz.f93)
abbrev aTi (fu:Nat) (x0:List Int) (n0:Nat) (v3:Int):=eS prog (AB T0 R0 aG aM T1 R1 aN bI T2 R2 bC bW T3 R3 bO T4 R4 eV jS) fu NQ (aDV T0 R0 aG aM T1 R1 aN bI T2 R2 bC bW T3 R3 bO T4 R4 eV jS fu ) fu (some (NP x0 n0 v3))
theorem aDW (fu:Nat) (x0:List Int) (n0:Nat):NO T0 R0 aG aM T1 R1 aN bI T2 R2 bC bW T3 R3 bO T4 R4 eV jS fu  (Ex.exit 0) (Iv x0 n0)=aTi T0 R0 aG aM T1 R1 aN bI T2 R2 bC bW T3 R3 bO T4 R4 eV jS fu x0 n0 (n0:Int):=by kernel_rfl
def DZ (x0:List Int) (n0:Nat) (v3:Int):St:={ tm:=[(0,.s (dI x0 n0)),(3,.int .i64 v3)],hp:=[],nx:=0,sz:=41 }
theorem aTj {β:Type} (fu:Nat) (G:FG β) (H:FH β) (x0:List Int) (n0:Nat) (v3:Int):fI prog (AB T0 R0 aG aM T1 R1 aN bI T2 R2 bC bW T3 R3 bO T4 R4 eV jS) fu NQ G H (NP x0 n0 v3)=bif decide (0 < v3) then bif decide (0 <= i64.wrap (v3 - 1) /\ i64.wrap (v3 - 1) < (n0:Int)) then bif decide (x0.getD (i64.wrap (v3 - 1)).toNat (0:Int)=0) then G (some (NP x0 n0 (i64.wrap (v3 - 1)))) else H (Ex.exit 2) (some (DZ x0 n0 v3)) else none else H (Ex.exit 2) (some (DZ x0 n0 v3)):=by kernel_rfl
def NR (x0:List Int) (n0:Nat) (x4:List Int) (n4:Nat):St:={ tm:=[(0,.s (dI x0 n0)),(4,.s (dI x4 n4))],hp:=[],nx:=0,sz:=41 }
def Th:Code:=cM (bN [1,1,1,1,1,1,0,2] (bD Tryz.f93))
def Ti (fu:Nat):=lP prog (AB T0 R0 aG aM T1 R1 aN bI T2 R2 bC bW T3 R3 bO T4 R4 eV jS) fu [1,1,1,1,1,1,0,2] (bD Tryz.f93) (fT prog Tryz.f93)
abbrev aTk (fu:Nat) (x0:List Int) (n0:Nat) (x4:List Int) (n4:Nat):=eS prog (AB T0 R0 aG aM T1 R1 aN bI T2 R2 bC bW T3 R3 bO T4 R4 eV jS) fu Th (Ti T0 R0 aG aM T1 R1 aN bI T2 R2 bC bW T3 R3 bO T4 R4 eV jS fu ) fu (some (NR x0 n0 x4 n4))
theorem aDX (fu:Nat) (x0:List Int) (n0:Nat) (v3:Int):aDV T0 R0 aG aM T1 R1 aN bI T2 R2 bC bW T3 R3 bO T4 R4 eV jS fu  (Ex.exit 2) (DZ x0 n0 v3)=bif decide ((0:Int) <= 0 /\ 0 <= v3 /\ v3 <= (n0:Int)) then (R2 []).bind λ t=>aTk T0 R0 aG aM T1 R1 aN bI T2 R2 bC bW T3 R3 bO T4 R4 eV jS fu (List.take ((v3 - 0).toNat*1) (List.drop 0 x0)) (v3 - 0).toNat (bC t) (bW t) else none:=by kernel_rfl
def Qj (x0:List Int) (n0:Nat):St:={ tm:=[(0,.s (dI x0 n0))],hp:=[],nx:=0,sz:=41 }
theorem aDY {β:Type} (fu:Nat) (G:FG β) (H:FH β) (x0:List Int) (n0:Nat) (x4:List Int) (n4:Nat):fI prog (AB T0 R0 aG aM T1 R1 aN bI T2 R2 bC bW T3 R3 bO T4 R4 eV jS) fu Th G H (NR x0 n0 x4 n4)=(R3 [.s (dI x0 n0),.s (dI x4 n4)]).bind λ t=>bif decide (0 <= bO t) then (R4 [.s (dI x0 n0),.s (dI x4 n4)]).bind λ t=>G (some (NR (eV t) (jS t) x4 n4)) else H (Ex.exit 4) (some (Qj x0 n0)):=by kernel_rfl
theorem Qk (fu:Nat) (x0:List Int) (n0:Nat):Ti T0 R0 aG aM T1 R1 aN bI T2 R2 bC bW T3 R3 bO T4 R4 eV jS fu  (Ex.exit 4) (Qj x0 n0)=some (AV.s (dI x0 n0)):=by kernel_rfl
end
def Ql:Cg:=⟨⟨dE [],[],dR⟩,[(4,[0,2,3,4],[2,3])]⟩
def NS (x0:List Int) (n0:Nat) (v4:Int) (aQ bA:List Int):St:={ tm:=[(0,.s (dI x0 n0)),(2,.s (.ptr 0 0 32)),(3,.s (.ptr 1 0 32)),(4,.int .i64 v4)],hp:=[(0,{ ty:=23,n:=32,row:=Row.t (.ints .u8 aQ) }),(1,{ ty:=23,n:=32,row:=Row.t (.ints .u8 bA) })],nx:=2,sz:=23 }
def Tj:Code:=cM (bN [1,1,0,1,2] (bD Tryz.f99))
def Tk (fu:Nat):=lP prog Ql fu [1,1,0,1,2] (bD Tryz.f99) (fT prog Tryz.f99)
abbrev aTl (fu:Nat) (x0:List Int) (n0:Nat) (v4:Int) (aQ bA:List Int):=eS prog Ql fu Tj (Tk fu ) fu (some (NS x0 n0 v4 aQ bA))
theorem aTm (fu:Nat) (x:Nat):bB prog Tryz.f99 Ql fu [eN x]=aTl fu (nb x) (nb x).length 0 [0,0,0,0,0,0,0,0,0,0,0,0,0,0,0,0,0,0,0,0,0,0,0,0,0,0,0,0,0,0,0,0] [0,0,0,0,0,0,0,0,0,0,0,0,0,0,0,0,0,0,0,0,0,0,0,0,0,0,0,0,0,0,0,0]:=by kernel_rfl
def Qm (aQ bA:List Int):St:={ tm:=[(2,.s (.ptr 0 0 32)),(3,.s (.ptr 1 0 32))],hp:=[(0,{ ty:=23,n:=32,row:=Row.t (.ints .u8 aQ) }),(1,{ ty:=23,n:=32,row:=Row.t (.ints .u8 bA) })],nx:=2,sz:=23 }
theorem aDZ {β:Type} (fu:Nat) (G:FG β) (H:FH β) (x0:List Int) (n0:Nat) (v4:Int) (aQ bA:List Int):fI prog Ql fu Tj G H (NS x0 n0 v4 aQ bA)=bif decide (v4 < (n0:Int)) && decide (v4 < 32) then bif decide (0 <= v4 /\ v4 < (n0:Int)) then bif decide (0 <= v4 /\ v4 < 32) then G (some (NS x0 n0 (i64.wrap (v4+1)) aQ (bA.set (0+v4.toNat) (u8.wrap (x0.getD v4.toNat 0))))) else none else none else H (Ex.exit 0) (some (Qm aQ bA)):=by kernel_rfl
theorem aD0 (fu:Nat) (aQ bA:List Int):Tk fu  (Ex.exit 0) (Qm aQ bA)=some (AV.agg (.ints .u8 bA) 32):=by kernel_rfl
section
variable (T0:Type) (R0:FA T0) (aG:T0->List Int) (aM:T0->Nat) (T1:Type) (R1:FA T1) (aN:T1->List Int) (bI:T1->Nat)
def aOS:Cg:=⟨⟨dE [(53,⟨R0,λ t=>AV.s (dI (aG t) (aM t))⟩),(93,⟨R1,λ t=>AV.s (dI (aN t) (bI t))⟩)],[],dR⟩,[]⟩
theorem aTn (fu:Nat) (x y:Nat):bB prog Tryz.f48 (aOS T0 R0 aG aM T1 R1 aN bI) fu [eN x,eN y]=(R0 [.s (dI (nb x) (nb x).length),.s (dI (nb y) (nb y).length)]).bind λ t=>(R1 [.s (dI (aG t) (aM t))]).bind λ t=>some (AV.s (dI (aN t) (bI t))):=by kernel_rfl
end
section
variable (T0:Type) (R0:FA T0) (aG:T0->List Int) (aM:T0->Nat) (T1:Type) (R1:FA T1) (aN:T1->List Int) (bI:T1->Nat) (T2:Type) (R2:FA T2) (bC:T2->List Int) (bW:T2->Nat) (T3:Type) (R3:FA T3) (bO:T3->List Int) (cI:T3->Nat)
def aOT:Cg:=⟨⟨dE [(45,⟨R0,λ t=>AV.s (dI (aG t) (aM t))⟩),(53,⟨R1,λ t=>AV.s (dI (aN t) (bI t))⟩),(55,⟨R2,λ t=>AV.s (dI (bC t) (bW t))⟩),(93,⟨R3,λ t=>AV.s (dI (bO t) (cI t))⟩)],[],dR⟩,[]⟩
theorem aTo (fu:Nat) (x y:Nat):bB prog Tryz.f41 (aOT T0 R0 aG aM T1 R1 aN bI T2 R2 bC bW T3 R3 bO cI) fu [eN x,eN y]=(R0 []).bind λ t=>(R1 [.s (dI (nb x) (nb x).length),.s (dI (aG t) (aM t))]).bind λ t=>(R2 [.s (dI (aN t) (bI t)),.s (dI (nb y) (nb y).length)]).bind λ t=>(R3 [.s (dI (bC t) (bW t))]).bind λ t=>some (AV.s (dI (bO t) (cI t))):=by kernel_rfl
end
section
variable (T0:Type) (R0:FA T0) (aG:T0->List Int) (aM:T0->Nat) (T1:Type) (R1:FA T1) (aN:T1->List Int) (bI:T1->Nat)
def aOU:Cg:=⟨⟨dE [(94,⟨R0,λ t=>AV.s (dI (aG t) (aM t))⟩),(93,⟨R1,λ t=>AV.s (dI (aN t) (bI t))⟩)],[],dR⟩,[]⟩
theorem aTp (fu:Nat) (x y:Nat):bB prog Tryz.f40 (aOU T0 R0 aG aM T1 R1 aN bI) fu [eN x,eN y]=(R0 [.s (dI (nb x) (nb x).length),.s (dI (nb y) (nb y).length)]).bind λ t=>(R1 [.s (dI (aG t) (aM t))]).bind λ t=>some (AV.s (dI (aN t) (bI t))):=by kernel_rfl
end
def aD1:Cg:=⟨⟨dE [],[],dR⟩,[]⟩
theorem aKf (fu:Nat) (x:Nat):bB prog Tryz.f46 aD1 fu [eN x]=bif decide (0 < (↑(nb x).length:Int)) then bif decide ((0:Int) <= 0 /\ 0 < (↑(nb x).length:Int)) then some (AV.bool (decide (((nb x).getD 0 0).tmod (2:Int)=1))) else none else some (AV.bool false):=by kernel_rfl
section
variable (T0:Type) (R0:FA T0) (aG:T0->Bool) (T1:Type) (R1:FA T1) (aN:T1->List Int) (bI:T1->Nat)
def aOV:Cg:=⟨⟨dE [(46,⟨R0,λ t=>AV.bool (aG t)⟩),(41,⟨R1,λ t=>AV.s (dI (aN t) (bI t))⟩)],[],dR⟩,[]⟩
theorem aTq (fu:Nat) (x:Nat):bB prog Tryz.f50 (aOV T0 R0 aG T1 R1 aN bI) fu [eN x]=(R0 [.s (dI (nb x) (nb x).length)]).bind λ t=>bif aG t then (R1 [.s (dI [] 0),.s (dI (nb x) (nb x).length)]).bind λ t=>some (AV.s (dI (aN t) (bI t))) else some (AV.s (dI (nb x) (nb x).length)):=by kernel_rfl
end
section
variable (T0:Type) (R0:FA T0) (aG aM cB cE cR:T0->Int) (T1:Type) (R1:FA T1) (aN bI gV gW iL:T1->Int) (T2:Type) (R2:FA T2) (T3:Type) (R3:FA T3) (bO cI qG zG zH:T3->Int) (T4:Type) (R4:FA T4) (eV:T4->Bool) (T5:Type) (R5:FA T5) (fW:T5->Bool) (T6:Type) (R6:FA T6) (oH oI Ej Ek El:T6->Int)
end
section
variable (T0:Type) (R0:FA T0)
def aOW:Cg:=⟨⟨dE [(227,⟨R0,λ t=>AV.bool (true)⟩)],[],dR⟩,[]⟩
theorem aTr (fu:Nat):bB prog Tryz.f219 (aOW T0 R0) fu []=(R0 []).bind λ t=>some (AV.bool true):=by kernel_rfl
end
set_option maxRecDepth 4000
abbrev aTs:Cg:=aOQ (Nat × Bool) z8 (λ t=>nb t.fst) (λ t=>(nb t.fst).length) (λ t=>t.2)
theorem aKg:CfOk prog aTs.c:=gk <| aA Kg <| aK
theorem NT:CallOk prog 56 aE6:=by
 refine i7 aKg Tryz.func56 ?_;intro args t ht;unfold aE6 at ht;simp only at ht;split at ht
 ·rename_i s;obtain ⟨h1,h2⟩:=cC ht;subst h2;refine (aTe ..).trans ?_;rw [Jo (jN h1),aC];cases wA s <;> rfl
 ·cases ht
abbrev aTt:Cg:=aOR (Nat) XK (λ t=>nb t) (λ t=>(nb t).length)
theorem aKh:CfOk prog aTt.c:=gk <| aA NT <| aK
theorem LJ:CallOk prog 45 sRP:=by
 refine i7 aKh Tryz.func45 ?_;intro args t ht;unfold sRP at ht;simp only at ht;split at ht
 ·cases ht;refine (aTf ..).trans ?_;refine iR (b:=(some aJ).bind λ (t:Nat)=>some (AV.s (SV.dat (TRow.ints i64 (nb t)) (nb t).length 1))) ?_ rfl;congr 1
 ·cases ht
theorem E6:rRP []=some aJ:=rfl
theorem CZ (x k:Nat):k < (nb x).length ↔ 256 ^ k <= x:=by
 constructor
 ·exact K2
 ·intro h;rcases pS k (nb x).length with g | g
  ·exact g
  ·have:=rJ x;have:=iK (n:=256) (by decide) g;omega
theorem dA {x k:Nat} (h:x < 256 ^ k):(nb x).length <= k:=xN h
theorem aD2 (k:Nat):∀ (j x:Nat),lo (j+k) x=lo j x++lo k (x / 256 ^ j):=by
 intro j
 induction j with
 | zero=>intro x; simp [lo]
 | succ j ih=>
  intro x;rw [show j+1+k=(j+k)+1 by omega,lo,lo,ih,Fr,gR,bM,cG 256]
theorem Wj (x j:Nat) (h:j <= (nb x).length):(nb x).drop j=nb (x / 256 ^ j):=by
 have e:=Ie x;have hk:(nb (x / 256 ^ j)).length=(nb x).length - j:=by
  refine Nat.le_antisymm (xN ?_) ?_
  ·rw [BU (gS (by decide)),<-dM,show (nb x).length - j+j=(nb x).length by omega];exact rJ x
  ·rcases Ee ((nb x).length - j) with h0 | h0
   ·omega
   ·have:(nb x).length - j - 1 < (nb (x / 256 ^ j)).length:=by
     rw [CZ,Nat.le_div_iff_mul_le (gS (by decide)),<-dM,<-CZ];omega
    omega
 rw [Ie (x / 256 ^ j),hk,e,i4,show (nb x).length=j+((nb x).length - j) by omega,aD2,List.drop_left' (i4 ..)];rw [show j+((nb x).length - j) - j=(nb x).length - j by omega]
theorem aZ8:AV.s (SV.dat (TRow.ints i64 [(38:Int)]) 1 1)=eN 38:=rfl
abbrev Iw:Cg:=AB (Nat) uA (λ t=>nb t) (λ t=>(nb t).length) (Nat) jF (λ t=>nb t) (λ t=>(nb t).length) (Nat) rRP (λ t=>nb t) (λ t=>(nb t).length) (Int) nE (λ t=>t) (Nat) pF (λ t=>nb t) (λ t=>(nb t).length)
theorem aKi:CfOk prog Iw.c:=gk <| aA FZ <| aA sS <| aA LJ <| aA BL <| aA wT <| aK
theorem Tl:(nb aJ).length=32:=by decide +kernel
theorem rd3 (fu:Nat):∀ (d n x:Nat),x < (d+1)*aJ->x < 256 ^ 32->d < n ->
  eS prog Iw fu Th (Ti _ uA (λ t=>nb t) (λ t=>(nb t).length) _ jF (λ t=>nb t) (λ t=>(nb t).length) _ rRP (λ t=>nb t) (λ t=>(nb t).length) _ nE (λ t=>t) _ pF (λ t=>nb t) (λ t=>(nb t).length) fu) n (some (NR (nb x) (nb x).length (nb aJ) (nb aJ).length))=some (eN (x%aJ)):=by
 intro d;have hP:=Tl
 induction d with
 | zero=>
  intro n x hx hx2 hn;obtain ⟨n,rfl⟩:=aP (by omega:n ≠ 0);have hl:=dA hx2;have hc:=mM (x:=x) (y:=aJ) (by omega) (by omega);simp only [eN] at hc;rw [aF,aDY,hc,aC,Az,aH (by omega),aD,aR,Qk,aV (by omega)];rfl
 | succ d ih=>
  intro n x hx hx2 hn;obtain ⟨n,rfl⟩:=aP (by omega:n ≠ 0);have hl:=dA hx2;have hc:=mM (x:=x) (y:=aJ) (by omega) (by omega);simp only [eN] at hc;rw [aF,aDY,hc,aC,Az];by_cases c:aJ <= x
  ·have hs:=o9 (x:=x) (y:=aJ) (by omega) (by omega) c;simp only [eN] at hs;rw [aE c,aB,hs,aC,Nat.mod_eq_sub_mod c];exact ih n (x - aJ) (by rw [gL] at hx; omega) (by omega) (by omega)
  ·rw [aH c,aD,aR,Qk,aV (by omega)];rfl
theorem rd2 (fu:Nat) (hfu:3 < fu) (x:Nat) (hx:x < 256 ^ 32):NO _ uA (λ t=>nb t) (λ t=>(nb t).length) _ jF (λ t=>nb t) (λ t=>(nb t).length) _ rRP (λ t=>nb t) (λ t=>(nb t).length) _ nE (λ t=>t) _ pF (λ t=>nb t) (λ t=>(nb t).length) fu (.exit 0) (Iv (nb x) (nb x).length)=some (eN (x%aJ)):=by
 obtain ⟨m,rfl⟩:=aP (by omega:fu ≠ 0);have hl:=dA hx;have hr:∀ (fu':Nat) (G:Option St->Option AV) (H:Ex->Option St->Option AV),fI prog Iw fu' NQ G H (NP (nb x) (nb x).length ((nb x).length:Int))=H (.exit 2) (some (DZ (nb x) (nb x).length ((nb x).length:Int))):=by
  intro fu' G H;rw [aTj];by_cases h0:(nb x).length=0
  ·rw [aH (by omega),aD]
  ·have ht:=yG (nb x) ((nb x).length - 1) (by rw [Id]; omega);have e:i64.wrap (((nb x).length:Int) - 1)=(((nb x).length - 1:Nat):Int):=by rw [bY (by omega) (by omega)]; omega
   rw [aE (by omega),aB,e,aE (by omega),aB,bE,aH ht,aD]
 refine (aDW ..).trans ?_;show eS prog Iw (m+1) NQ _ (m+1) (some _)=_;rw [aF,hr,aR,aDX,aE (by omega),aB,E6,aC,Int.sub_zero,bE,iY,kU,Ec];exact rd3 (m+1) 2 (m+1) x (by simp only [aJ]; simp only [Nat.reducePow] at hx; omega) hx (by omega)
theorem rd1 (fu:Nat) (hfu:3 < fu):∀ (d n x:Nat),(∀ y,y=x->True)->d < n->(d=0->x < 256 ^ 32)->(d=1->x < 256 ^ 32+256 ^ 31)->(d=2->x < 39*256 ^ 32)->(d=3->x < 256 ^ 64)->d <= 3 ->
  eS prog Iw fu Tf (NO _ uA (λ t=>nb t) (λ t=>(nb t).length) _ jF (λ t=>nb t) (λ t=>(nb t).length) _ rRP (λ t=>nb t) (λ t=>(nb t).length) _ nE (λ t=>t) _ pF (λ t=>nb t) (λ t=>(nb t).length) fu) n (some (NN (nb x) (nb x).length))=some (eN (x%aJ)):=by
 intro d
 induction d with
 | zero=>
  intro n x _ hn h0 _ _ _ _;obtain ⟨n,rfl⟩:=aP (by omega:n ≠ 0);have hl:=dA (h0 rfl);rw [aF,Tg,aH (by omega),aD,aR];exact rd2 fu hfu x (h0 rfl)
 | succ d ih=>
  intro n x _ hn h0 h1 h2 h3 hd;obtain ⟨n,rfl⟩:=aP (by omega:n ≠ 0);have hx:x < 256 ^ 64:=by
   simp only [Nat.reducePow] at *;rcases (by omega:d=0 ∨ d=1 ∨ d=2) with rfl | rfl | rfl
   ·have:=h1 rfl; omega
   ·have:=h2 rfl; omega
   ·exact h3 rfl
  have hl:=dA hx;by_cases c:x < 256 ^ 32
  ·have hl:=dA c;rw [aF,Tg,aH (by omega),aD,aR];exact rd2 fu hfu x c
  ·have hlt:32 < (nb x).length:=(CZ x 32).2 (by omega);have hq:x / 256 ^ 32 < 256 ^ 32:=by
    rw [BU (gS (by decide)),<-dM]; exact hx
   have hm:=Co (x:=x / 256 ^ 32) (y:=38) (cK (dA hq) (by decide)) (by decide);have hq38:x / 256 ^ 32*38 < 256 ^ 33:=by simp only [Nat.reducePow] at hq ⊢; omega
   have ht:((nb x).take 32).length=32:=by rw [dV]; omega
   have ha:=Rw (a:=(nb x).take 32) (y:=x / 256 ^ 32*38) (Rq 32 (CW x)) (by omega) (cK (dA hq38) (by decide));rw [ht,Xt _ _ (CW x),fY] at ha;simp only [eN] at hm ha;have e1:(((nb x).length:Int) - 32).toNat=(nb x).length - 32:=by omega
   have e2:List.take ((nb x).length - 32) (List.drop 32 (nb x))=nb (x / 256 ^ 32):=by
    rw [fB (by rw [kX]; omega),Wj x 32 (by omega)]
   have e3:(nb x).length - 32=(nb (x / 256 ^ 32)).length:=by
    rw [<-Wj x 32 (by omega),kX]
   rw [aF,Tg,aE (by omega),aB,aE (by omega),aB,aE (by omega),aB,e1,iY,e2,e3,aZ8,eN,hm,aC,kU,ha,aC];have hmod:x%aJ=(x%256 ^ 32+x / 256 ^ 32*38)%aJ:=by
    have:x=x%256 ^ 32+x / 256 ^ 32*38+aJ*(2*(x / 256 ^ 32)):=by
     have:=eO x (256 ^ 32);simp only [Nat.reducePow,aJ] at *;omega
    rw [this,BT,<-this]
   rw [hmod];refine ih n _ (λ _ _=>trivial) (by omega) ?_ ?_ ?_ ?_ (by omega)
   ·intro hd0;have:=h1 (by omega);simp only [Nat.reducePow] at *;omega
   ·intro hd0;have:=h2 (by omega);simp only [Nat.reducePow] at *;omega
   ·intro hd0;simp only [Nat.reducePow] at *;omega
   ·intro hd0; omega
theorem Tm:CallOk prog 93 aKX:=by
 refine aZ (fu:=λ _=>6) aKi Tryz.func93 ?_;intro args t ht;unfold aKX mJ at ht;simp only at ht;split at ht
 ·rename_i a n;obtain ⟨h1,h2⟩:=cC ht;rw [aX] at h1;obtain ⟨x,rfl,rfl,hx,ex⟩:=o8 h1.1;have h3:=dL.mp h1.2;rw [ex] at h3 h2;subst h2;refine (aTh ..).trans ?_;exact rd1 6 (by omega) 3 6 x (λ _ _=>trivial) (by omega) (by omega) (by omega) (by omega) (λ _=>h3) (by omega)
 ·cases ht
theorem NU {x:Nat} (h:x < lJ):aE7 [eN x]=some (x%aJ):=by
 have hl:(nb x).length <= 64:=dA h;simp only [aE7,aKX,mJ,eN];rw [nV (by omega),fY,dL.mpr h]; rfl
theorem HI (R:List Int) (N i:Nat) (hN:R.length=N) (hi:i < N):(R.take i++List.replicate (N - i) 0).set i (R.getD i 0)=R.take (i+1)++List.replicate (N - (i+1)) 0:=by
 have e:R.take (i+1)=R.take i++[R.getD i 0]:=by
  rw [Hl,oD (by omega),fU,oD (by omega)]; rfl
 have hl:(R.take i).length=i:=by rw [dV]; omega
 rw [e,Eb _ _ (by rw [hl]; omega),hl,i0,show N - i=N - (i+1)+1 by omega,Fy,yS,lN]; rfl
abbrev aD3:Cg:=Ql 
theorem aKj:CfOk prog aD3.c:=gk <| aK
theorem aKk (x i:Nat) (hi:i <= 32) (h:x%256 ^ 32 < 256 ^ i):(lo 32 x).take i++List.replicate (32 - i) 0=lo 32 x:=by
 have hl:((lo 32 x).take i).length=i:=by rw [dV,i4]; omega
 refine aDU ?_ (sW ..) (by rw [i9,hl,List.length_replicate,i4]; omega) ?_
 ·rw [V6,Rq i (sW ..),Xu]; rfl
 ·rw [aC4,aGI,sM,fH,Xt _ _ (sW ..),GC];exact aV h
theorem aD4 (x:Nat) (hx:(nb x).length <= 1048576) (zs:List Int) (fu:Nat):∀ (d n i:Nat),i+d=min (nb x).length 32->d < n ->
  eS prog aD3 fu Tj (Tk fu) n (some (NS (nb x) (nb x).length (i:Int) zs ((lo 32 x).take i++List.replicate (32 - i) 0)))=some (lS (lo 32 x)):=by
 intro d
 induction d with
 | zero=>
  intro n i hi hn;obtain ⟨n,rfl⟩:=aP (by omega:n ≠ 0);have he:x%256 ^ 32 < 256 ^ i:=by
   rcases pS 32 (nb x).length with c | c
   ·have:i=32:=by omega
    subst this;exact bK _ (gS (by decide))
   ·have:i=(nb x).length:=by omega
    subst this;exact iI (Nat.mod_le _ _) (rJ x)
  have hc:(decide ((i:Int) < ((nb x).length:Int)) && decide ((i:Int) < 32))=false:=by
   rcases pS i (nb x).length with c | c
   ·rw [aH (by omega:¬ (i:Int) < 32),Bool.and_false]
   ·rw [aH (by omega:¬ (i:Int) < ((nb x).length:Int)),pC]
  rw [aF,aDZ,hc,aD,aR,aD0,aKk x i (by omega) he];rfl
 | succ d ih=>
  intro n i hi hn;obtain ⟨n,rfl⟩:=aP (by omega:n ≠ 0);have h:=ih n (i+1) (by omega) (by omega);have g:u8.wrap ((nb x).getD i 0)=(lo 32 x).getD i 0:=by
   rw [Ac x i (by omega),A2 32 x i (by omega),Db,aV (uM x i)]; rfl
  rw [aF,aDZ,aE (by omega:(i:Int) < ((nb x).length:Int)),aE (by omega:(i:Int) < 32),jX,aB,aE (by omega),aB,aE (by omega),aB,bE,bS,g,HI (lo 32 x) 32 i (i4 ..) (by omega),bY (by omega) (by omega)];exact h
theorem aTu:CallOk prog 99 aT5:=by
 refine aZ (fu:=λ _=>40) aKj Tryz.func99 ?_;intro args t ht;obtain ⟨x,rfl,hx,rfl⟩:=Jm (F:=λ x=>lo 32 x) ht;refine (aTm ..).trans ?_;exact aD4 x hx (List.replicate 32 0) 40 (min (nb x).length 32) 40 0 (by omega) (by omega)
theorem aKl {x:Nat} (h:(nb x).length <= 1048576):aKY [eN x]=some (lo 32 x):=by
 simp only [aKY,aT5];exact U3 (λ x=>lo 32 x) h
theorem rL {x:Nat} (h:x < aJ):(nb x).length <= 32:=dA (fC h (by decide +kernel))
theorem y5 {x:Nat} (h:bP x=true):x < aJ:=dL.mp h
theorem y6 {x:Nat} (h:x < aJ):bP x=true:=dL.mpr h
abbrev aTv:Cg:=aOS (Nat) jF (λ t=>nb t) (λ t=>(nb t).length) (Nat) aE7 (λ t=>nb t) (λ t=>(nb t).length)
theorem aKm:CfOk prog aTv.c:=gk <| aA sS <| aA Tm <| aK
theorem NV:CallOk prog 48 aE8:=by
 refine i7 aKm Tryz.func48 ?_;intro args t ht;obtain ⟨x,y,rfl,hx,hy,hc,rfl⟩:=nW (F:=λ a b=>(a+b)%aJ) (C:=λ a b=>bP a && bP b) ht;rw [aX] at hc;have h1:=y5 hc.1;have h2:=y5 hc.2;refine (aTn ..).trans ?_;have ha:=iQ hx hy;have hr:=NU (x:=x+y) (by simp only [aJ,lJ] at *; omega);simp only [eN] at ha hr;rw [ha,aC,hr];rfl
theorem wE {x y:Nat} (h1:x < aJ) (h2:y < aJ):GK [eN x,eN y]=some ((x+y)%aJ):=by
 have l1:=rL h1;have l2:=rL h2;simp only [GK,aE8];exact yF (λ a b=>(a+b)%aJ) (λ a b=>bP a && bP b) (by omega) (by omega) (by rw [y6 h1,y6 h2]; rfl)
abbrev aTw:Cg:=aOT (Nat) rRP (λ t=>nb t) (λ t=>(nb t).length) (Nat) jF (λ t=>nb t) (λ t=>(nb t).length) (Nat) pF (λ t=>nb t) (λ t=>(nb t).length) (Nat) aE7 (λ t=>nb t) (λ t=>(nb t).length)
theorem aKn:CfOk prog aTw.c:=gk <| aA LJ <| aA sS <| aA wT <| aA Tm <| aK
theorem Da:CallOk prog 41 aE9:=by
 refine i7 aKn Tryz.func41 ?_;intro args t ht;obtain ⟨x,y,rfl,hx,hy,hc,rfl⟩:=nW (F:=λ a b=>(a+aJ - b)%aJ) (C:=λ a b=>bP a && bP b) ht;rw [aX] at hc;have h1:=y5 hc.1;have h2:=y5 hc.2;refine (aTo ..).trans ?_;have ha:=iQ (y:=aJ) hx (by rw [Tl]; omega);have hl:(nb (x+aJ)).length <= 33:=dA (by simp only [aJ,Nat.reducePow] at *; omega);have hs:=o9 (x:=x+aJ) (y:=y) (by omega) hy (by omega);have hr:=NU (x:=x+aJ - y) (by simp only [aJ,lJ] at *; omega);simp only [eN] at ha hr hs;rw [E6,aC,ha,aC,hs,aC,hr];rfl
theorem nJ {x y:Nat} (h1:x < aJ) (h2:y < aJ):y7 [eN x,eN y]=some ((x+aJ - y)%aJ):=by
 have l1:=rL h1;have l2:=rL h2;simp only [y7,aE9];exact yF (λ a b=>(a+aJ - b)%aJ) (λ a b=>bP a && bP b) (by omega) (by omega) (by rw [y6 h1,y6 h2]; rfl)
abbrev aTx:Cg:=aOU (Nat) uA (λ t=>nb t) (λ t=>(nb t).length) (Nat) aE7 (λ t=>nb t) (λ t=>(nb t).length)
theorem aKo:CfOk prog aTx.c:=gk <| aA FZ <| aA Tm <| aK
theorem aKp {x y:Nat} (h1:x < aJ) (h2:y < aJ):x*y < lJ:=iI (iJ (Hn h1) (Hn h2)) (by decide +kernel)
theorem uC:CallOk prog 40 aFa:=by
 refine i7 aKo Tryz.func40 ?_;intro args t ht;obtain ⟨x,y,rfl,hx,hy,hc,rfl⟩:=nW (F:=λ a b=>a*b%aJ) (C:=λ a b=>bP a && bP b) ht;rw [aX] at hc;have h1:=y5 hc.1;have h2:=y5 hc.2;refine (aTp ..).trans ?_;have ha:=Co hx hy;have hr:=NU (x:=x*y) (aKp h1 h2);simp only [eN] at ha hr;rw [ha,aC,hr];rfl
theorem bJ {x y:Nat} (h1:x < aJ) (h2:y < aJ):oR [eN x,eN y]=some (x*y%aJ):=by
 have l1:=rL h1;have l2:=rL h2;simp only [oR,aFa];exact yF (λ a b=>a*b%aJ) (λ a b=>bP a && bP b) (by omega) (by omega) (by rw [y6 h1,y6 h2]; rfl)
abbrev aKq:Cg:=aD1 
theorem aD5:CfOk prog aKq.c:=gk <| aK
theorem NW:CallOk prog 46 aFb:=by
 refine i7 aD5 Tryz.func46 ?_;intro args t ht;obtain ⟨x,rfl,hx,rfl⟩:=Jm (F:=λ a=>Nat.beq (a%2) 1) ht;refine (aKf ..).trans ?_;show _=some (AV.bool (Nat.beq (x%2) 1));by_cases h:(nb x).length=0
 ·have h0:=(sX x).1 h;rw [aH (by omega),aD,h0]; rfl
 ·have hd:=Ac x 0 (by omega);rw [dg,jL,uS] at hd;have e:(((nb x).getD 0 0).tmod 2=1) ↔ x%2=1:=by
   rw [hd,lM (by omega)]; omega
  rw [aE (by omega),aB,aE (by omega),aB,uN,j7.2 e]
theorem AC {x:Nat} (h:(nb x).length <= 1048576):GL [eN x]=some (Nat.beq (x%2) 1):=by
 simp only [GL,aFb];exact U3 (λ a=>Nat.beq (a%2) 1) h
abbrev aTy:Cg:=aOV (Bool) GL (λ t=>t) (Nat) y7 (λ t=>nb t) (λ t=>(nb t).length)
theorem aKr:CfOk prog aTy.c:=gk <| aA NW <| aA Da <| aK
theorem eN0:AV.s (SV.dat (TRow.ints i64 []) 0 1)=eN 0:=rfl
theorem HJ:CallOk prog 50 XL:=by
 refine i7 aKr Tryz.func50 ?_;intro args t ht;unfold XL mJ at ht;simp only at ht;split at ht
 ·rename_i a n;obtain ⟨h1,h2⟩:=cC ht;rw [aX] at h1;obtain ⟨x,rfl,rfl,hx,ex⟩:=o8 h1.1;have h3:=y5 h1.2;rw [ex] at h3 h2;subst h2;refine (aTq ..).trans ?_;have ho:=AC hx;have hs:=nJ (x:=0) (y:=x) (by decide) h3;rw [<-eN0] at hs;simp only [eN] at ho hs;rw [ho,aC];show _=some (eN (oY x));rw [oY];cases Nat.beq (x%2) 1
  ·rfl
  ·rw [aB,hs]; rfl
 ·cases ht
theorem AD {x:Nat} (h:x < aJ):Dp [eN x]=some (oY x):=by
 have l:=rL h;simp only [Dp,XL,mJ,eN];rw [nV (by omega),fY,y6 h]; rfl
set_option maxRecDepth 4000
abbrev aTz:Cg:=aOW (PUnit) aCL
theorem aKs:CfOk prog aTz.c:=gk <| aA TW <| aK
theorem Tn:CallOk prog 219 jQ:=by
 refine i7 aKs Tryz.func219 ?_;intro args t ht;unfold jQ at ht;simp only at ht;split at ht
 ·exact (aTr ..).trans rfl
 ·cases ht
theorem aKt:∀ {a:List Int},(∀ y ∈ a,(Lit.int .u8 y).wf=true)->jE a=true:=by
 intro a
 induction a with
 | nil=>intro _; rfl
 | cons x r ih=>
  intro h;have h1:=h x (by simp);simp only [Lit.wf,aX,bG] at h1;have m1:u8.min=0:=rfl;have m2:u8.max=255:=rfl;rw [m1,m2] at h1;simp only [jE,aX,bG];exact ⟨by omega,ih λ y hy=>h y (by simp [hy])⟩
theorem Wk {a:List Int} (la:a.length=32) (wa:∀ y ∈ a,(Lit.int .u8 y).wf=true):fR a=true:=by
 rw [fR,la,aKt wa]; rfl
end
end Go.Eng
