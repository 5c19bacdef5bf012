import Derived.Test.YtmicbaijcbkmjaaGreatZF1
namespace Go.Eng
open Go.IntKind (u64 i64 u8)
noncomputable section
open Go Go.Proofs
set_option linter.all false
set_option maxRecDepth 4000
abbrev aCm:Cg:=B8 (Int) rOf (λ t=>[t,0,0,0,0,0,0,0]) (Nat) qZ (λ t=>cQ 8 t) (Nat × Bool) UT (λ t=>cQ 8 t.fst) (λ t=>t.snd) (Nat × Nat × Int) aUC (λ t=>cQ 8 t.fst) (λ t=>cQ 8 t.snd.fst) (λ t=>t.snd.snd)
theorem aJy:CfOk prog aCm.c:=gk <| aA WW <| aA Ik <| aA NV <| aA aUD <| aK
theorem aJz (n:Nat):(cQ 8 n).getD 0 0=((n%18446744073709551616:Nat):Int):=by
 have:=wD 8 0 n (by omega);rwa [jL,uS] at this
theorem aCn (n:Nat):d8 .u64 ((cQ 8 n).getD 0 0) 2251799813685247=((n%2251799813685248:Nat):Int):=by
 rw [aJz,Yx _ (bK _ (by decide))];congr 1;omega
theorem shN {r k:Nat} (h:k < 512) (hk:0 < k):xQ r (-(k:Int))=r / 2 ^ k:=by
 unfold xQ;rw [aH (by omega),aH (by omega),Cu,aD,aE (by omega),aB,Ap,bE]
theorem Vq:CallOk prog 162 aBI:=by
 refine aZ (fu:=λ _=>6) aJy Tryz.func162 ?_;intro args t ht;obtain ⟨a,rfl,ha,rfl⟩:=yD (F:=λ a=>fe (val a%aJ)) ht;refine (aQ9 ..).trans ?_;have s1:qZ [AV.agg (TRow.ints u64 [1,0,0,0,0,0,0,0]) 8,AV.int i64 255]=some 57896044618658097711785492504343953926634992332820282019728792003956564819968:=(wM (b:=[1,0,0,0,0,0,0,0]) (by decide) 255).trans (by decide +kernel);have s2:UT [AV.agg (TRow.ints u64 (cQ 8 57896044618658097711785492504343953926634992332820282019728792003956564819968)) 8,AV.agg (TRow.ints u64 [19,0,0,0,0,0,0,0]) 8]=some (fK+aJ,true) :=
  (OG (fA _) (b:=[19,0,0,0,0,0,0,0]) (by decide)).trans (by decide +kernel)
 have s3:aUC [AV.agg (TRow.ints u64 a) 8,AV.agg (TRow.ints u64 (cQ 8 (fK+aJ))) 8]=some (val a / aJ,val a%aJ,0):=by
  refine (aL6 ha (fA _)).trans ?_;have:val (cQ 8 (fK+aJ))=aJ:=by decide +kernel
  rw [JU,this,aW (by decide)]
 have o1:rOf [AV.int u64 1]=some 1:=rfl;have o2:rOf [AV.int u64 19]=some 19:=rfl;rw [o1,aC,s1,aC,o2,aC,s2,aC,s3,aC];show eS prog aCm 6 zP _ 6 (some _)=_;dsimp only;have hr:val a%aJ < aJ:=eM _;generalize val a%aJ=r at *;have hv:val (cQ 8 r)=r:=by
  rw [kL]; exact aV (fC hr (by decide))
 have h:∀ k:Nat,0 < k->k < 512->qZ [AV.agg (TRow.ints u64 (cQ 8 r)) 8,AV.int i64 (-(k:Int))]=some (r / 2 ^ k):=λ k h0 h1=>by
  refine (wM (fA r) _).trans ?_;rw [hv,shN h1 h0]
 have h0:qZ [AV.agg (TRow.ints u64 (cQ 8 r)) 8,AV.int i64 0]=some r:=by
  refine (wM (fA r) _).trans ?_;rw [hv]; simp [xQ]
 have t1:qZ [AV.agg (TRow.ints u64 (cQ 8 r)) 8,AV.int i64 (-51)]=some (r / 2251799813685248):=h 51 (by omega) (by omega);have t2:qZ [AV.agg (TRow.ints u64 (cQ 8 r)) 8,AV.int i64 (-102)]=some (r / 5070602400912917605986812821504):=h 102 (by omega) (by omega);have t3:qZ [AV.agg (TRow.ints u64 (cQ 8 r)) 8,AV.int i64 (-153)]=some (r / 11417981541647679048466287755595961091061972992):=h 153 (by omega) (by omega);have t4:qZ [AV.agg (TRow.ints u64 (cQ 8 r)) 8,AV.int i64 (-204)]=some (r / 25711008708143844408671393477458601640355247900524685364822016):=h 204 (by omega) (by omega);rw [aF,aRE,h0,aC,aCn,aF,aRF,t1,aC,aCn,aF,aRG,t2,aC,aCn,aF,aRH,t3,aC,aCn,aF,aRI,t4,aC,aCn,aF,aRJ,aR,aB3];rfl
theorem QC {a:List Int} (h:jO a=true):Ks [W8 a]=some (fe (val a%aJ)):=by
 simp only [Ks,aBI];exact wO (λ a=>fe (val a%aJ)) h
abbrev aSq:Cg:=aN9 (Nat × Int) EF (λ t=>cQ 8 t.fst) (λ t=>t.snd) (Fe) Ks (λ t=>↑t.a) (λ t=>↑t.b) (λ t=>↑t.c) (λ t=>↑t.d) (λ t=>↑t.e)
theorem aJA:CfOk prog aSq.c:=gk <| aA Cp <| aA Vq <| aK
theorem aJB (s:Str):(AR s).1 < fK:=by
 unfold AR;cases wP s
 ·exact JT
 ·rw [aB];cases h:Nat.blt (tS 0 s) fK
  ·exact JT
  ·exact dL.mp h
theorem G5:CallOk prog 131 H9:=by
 refine i4 aJA Tryz.func131 ?_;intro args t ht;unfold H9 at ht;simp only at ht;split at ht
 ·rename_i s;obtain ⟨h1,h2⟩:=cC ht;subst h2;refine (aRa ..).trans ?_;have c:=QC (fA (AR s).1);rw [kL,aV (aJB s),W8] at c;rw [GT (jN h1),aC];show (Ks [AV.agg (TRow.ints u64 (cQ 8 (AR s).1)) 8]).bind _=_;rw [c]; rfl
 ·cases ht
theorem nF {s:Str} (h:s.length <= 1099511627776):B7 [.str s]=some (fe ((AR s).1%aJ)):=by
 simp only [B7,H9];rw [aE h]; rfl
theorem j3 {a:List Int} (h:fR a=true):a.length=32 /\ jE a=true:=by
 simp only [fR,aX] at h;exact ⟨aS h.1,h.2⟩
theorem nG {T:Type} {F:List Int->T} {args:List AV} {t:T} (h:vV F args=some t):∃ a,args=[lR a] /\ fR a=true /\ t=F a:=by
 unfold vV at h;split at h
 ·obtain ⟨h1,h2⟩:=cC h;exact ⟨_,rfl,h1,h2.symm⟩
 ·cases h
theorem xM {T:Type} (F:List Int->T) {a:List Int} (h:fR a=true):vV F [lR a]=some (F a):=by
 simp only [vV,lR];rw [h]; rfl
theorem aSr:∀ n:Fin 256,d8 u8 (n.1:Int) 127=((n.1%128:Nat):Int):=by decide +kernel
theorem aSs {a:List Int} (h:fR a=true):jE (a.set 31 (d8 .u8 (a.getD 31 0) 127))=true /\ vB (a.set 31 (d8 .u8 (a.getD 31 0) 127))=vB a%DJ:=by
 obtain ⟨hl,hb⟩:=j3 h;obtain ⟨g0,g1⟩:=Ir hb 31;obtain ⟨n,hn⟩:=b9 g0;have hn':n < 256:=by omega
 rw [hn,show d8 .u8 (n:Int) 127=((n%128:Nat):Int) from aSr ⟨n,hn'⟩];refine ⟨Nm a 31 (n%128) hb (by omega),?_⟩;have h1:=Tu a 31 (n%128) (by omega) hb;rw [hn,bE] at h1;have h2:=GS a hb;rw [hl] at h2;have h3:n=vB a / 256 ^ 31:=by
  have e:=BM 32 (vB a) 31 (by omega);rw [<-hl,Jb a hb,hn] at e;have:=Int.ofNat.inj e;rw [this];exact aV (by simp only [Nat.reducePow] at h2 ⊢; omega)
 simp only [Nat.reducePow,DJ] at *;omega
abbrev aSt:Cg:=aOa (Nat × Int) Ue (λ t=>cQ 8 t.fst) (λ t=>t.snd) (Fe) Ks (λ t=>↑t.a) (λ t=>↑t.b) (λ t=>↑t.c) (λ t=>↑t.d) (λ t=>↑t.e)
theorem aJC:CfOk prog aSt.c:=gk <| aA Sd <| aA Vq <| aK
theorem QD:CallOk prog 157 S8:=by
 refine i4 aJC Tryz.func157 ?_;intro args t ht;obtain ⟨a,rfl,ha,rfl⟩:=nG (F:=rR) ht;obtain ⟨hl,hb⟩:=j3 ha;obtain ⟨k1,k2⟩:=aSs ha;refine (aRb ..).trans ?_;have hlen:(a.set 31 (d8 .u8 (a.getD 31 0) 127)).length=32:=by rw [Fx,hl]
 rw [kU,fB (by omega),Lz (by rw [iA,hlen]; omega),aC,iA,hlen,show Nat.blt 64 32=false from rfl,aD,XM k1,k2];have c:=QC (fA (vB a%DJ));rw [kL,aV (a:=vB a%DJ) (b:=fK) (fC (bK _ (by decide)) (by decide)),W8] at c;show (Ks [AV.agg (TRow.ints u64 (cQ 8 (vB a%DJ))) 8]).bind _=_;rw [c]; rfl
theorem Kx {a:List Int} (h:fR a=true):MT [lR a]=some (rR a):=by
 simp only [MT,S8];exact xM rR h
abbrev Mf:Cg:=DL (Fe) pD (λ t=>↑t.a) (λ t=>↑t.b) (λ t=>↑t.c) (λ t=>↑t.d) (λ t=>↑t.e)
theorem aJD:CfOk prog Mf.c:=gk <| aA A3 <| aK
theorem aZ2 (x y:Nat) (hx:x < 256) (hy:y < 256):Dx .u8 (x:Int) (y:Int)=((x ||| y:Nat):Int):=by
 unfold Dx;have e:(BitVec.ofInt (IntKind.bits .u8) (x:Int) ||| BitVec.ofInt (IntKind.bits .u8) (y:Int)).toNat=x ||| y:=by
  show (BitVec.ofInt 8 (x:Int) ||| BitVec.ofInt 8 (y:Int)).toNat=x ||| y;rw [BitVec.toNat_or,Yf,Yf,Sh,Sh,aV (by omega),aV (by omega)]
 rw [e,Dn,aV];exact Hp (n:=8) hx hy
theorem aZ3:∀ (b:Fin 2) (r:Fin 8),j8 .u8 (u8.wrap (b.1:Int)) (r.1:Int)=((b.1*2 ^ r.1:Nat):Int):=by decide +kernel
theorem aSu (q:Nat):256 ^ q=2 ^ (8*q):=by rw [show 256=2 ^ 8 from rfl,<-jK]
theorem aSv (x b r:Nat) (hx:x < 2 ^ r) (hb:b < 2):x ||| b*2 ^ r=x+b*2 ^ r:=by
 rcases (by omega:b=0 ∨ b=1) with rfl | rfl
 ·simp
 ·rw [pV]; exact aDz x r hx
theorem aCo {a b:List Int} (ha:jE a=true) (hb:jE b=true) (hl:a.length=b.length) (h:vB a=vB b):a=b:=by
 rw [<-Jb a ha,<-Jb b hb,hl,h]
theorem aJE (n t:Nat) (ht:t < 255):(lo 32 (n%2 ^ t)).set (t / 8) (Dx .u8 ((lo 32 (n%2 ^ t)).getD (t / 8) 0) (j8 .u8 (u8.wrap ((n / 2 ^ t%2:Nat):Int)) ((t%8:Nat):Int)))=lo 32 (n%2 ^ (t+1)):=by
 have hb:n / 2 ^ t%2 < 2:=bK _ (by decide);generalize hbit:n / 2 ^ t%2=b at *;have e1:n%2 ^ (t+1)=n%2 ^ t+b*2 ^ t:=by
  rw [bM,uU,hbit,cG]
 have hm:n%2 ^ t < 2 ^ t:=bK _ (Nat.two_pow_pos t);rw [e1];generalize n%2 ^ t=m at *;have hs:2 ^ t=2 ^ (8*(t / 8))*2 ^ (t%8):=by rw [<-dM]; congr 1; omega
 have hq:m / 256 ^ (t / 8) < 2 ^ (t%8):=by
  rw [aSu,BU (Nat.two_pow_pos _),cG,<-hs]; exact hm
 have h8:2 ^ (t%8) <= 128:=iK (n:=2) (by omega) (by omega:t%8 <= 7);have hbr:b*2 ^ (t%8) <= 128:=by
  rcases (by omega:b=0 ∨ b=1) with rfl | rfl <;> omega
 have e0:j8 .u8 (u8.wrap (b:Int)) ((t%8:Nat):Int)=((b*2 ^ (t%8):Nat):Int):=aZ3 ⟨b,hb⟩ ⟨t%8,by omega⟩;rw [BM 32 m (t / 8) (by omega),aV (a:=m / 256 ^ (t / 8)) (by omega),e0,aZ2 _ _ (by omega) (by omega),aSv _ _ _ hq hb];have pm:2 ^ t < 2 ^ 255:=Nat.pow_lt_pow_right (by decide) ht;have hbt:b*2 ^ t <= 2 ^ t:=by
  rcases (by omega:b=0 ∨ b=1) with rfl | rfl <;> omega
 refine aCo (Nm _ _ _ (tJ ..) (by omega)) (tJ ..) (by rw [Fx,i7,i7]) ?_;have h1:=Tu (lo 32 m) (t / 8) (m / 256 ^ (t / 8)+b*2 ^ (t%8)) (by rw [i7]; omega) (tJ ..);rw [BM 32 m (t / 8) (by omega),bE,aV (a:=m / 256 ^ (t / 8)) (by omega),GQ,aV (a:=m) (by simp only [Nat.reducePow] at pm ⊢; omega),uW] at h1;rw [GQ,aV (a:=m+b*2 ^ t) (by simp only [Nat.reducePow] at pm ⊢; omega)];have e2:256 ^ (t / 8)*(b*2 ^ (t%8))=b*2 ^ t:=by
  rw [hs,aSu,Eg]
 rw [e2] at h1;omega
theorem aSw (n i k:Nat) (hk:k < 51):d8 .u64 (eK .u64 ((n / 2 ^ (51*i)%2251799813685248:Nat):Int) (k:Int)) 1=((n / 2 ^ (51*i+k)%2:Nat):Int):=by
 rw [mX _ k (by omega),aKK _ (iI (pQ ..) (fC (bK _ (by decide)) (by decide)))];congr 1;rw [show (2251799813685248:Nat)=2 ^ k*2 ^ (51 - k) by rw [<-dM,show k+(51 - k)=51 by omega],Ho,gR,<-dM];exact Nat.mod_mod_of_dvd _ (pR (by decide:2 ∣ 2 ^ 1) (Nat.pow_dvd_pow 2 (by omega)))
theorem aXv {β:Type} (n:Nat) (xs zs:List Int) (fu:Nat) (G:FG β) (H:FH β) (i:Nat) (hi:i < 5):∀ (d m k:Nat),k+d=51->d < m ->
  eS prog Mf fu TB (TC _ pD (λ t=>(t.a:Int)) (λ t=>(t.b:Int)) (λ t=>(t.c:Int)) (λ t=>(t.d:Int)) (λ t=>(t.e:Int)) fu G H) m
   (some (MW (i:Int) ((n / 2 ^ (51*i)%2251799813685248:Nat):Int) xs (i:Int) (k:Int) zs (lo 32 (n%2 ^ (51*i+k)))))=G (some (IC xs ((i+1:Nat):Int) zs (lo 32 (n%2 ^ (51*(i+1)))))):=by
 intro d
 induction d with
 | zero=>
  intro m k hk hm;obtain ⟨m,rfl⟩:=aP (by omega:m ≠ 0);have e:k=51:=by omega
  subst e;rw [aF,aBZ,aH (by omega),aD,aR,aB1,bY (by omega) (by omega)];rfl
 | succ d ih=>
  intro m k hk hm;obtain ⟨m,rfl⟩:=aP (by omega:m ≠ 0);have h:=ih m (k+1) (by omega) (by omega);have e1:i64.wrap (i64.wrap (51*(i:Int))+(k:Int))=((51*i+k:Nat):Int):=by
   rw [bY (n:=51*(i:Int)) (by omega) (by omega),bY (by omega) (by omega)]; omega
  have e2:i64.wrap ((((51*i+k:Nat):Int)).tdiv 8)=(((51*i+k) / 8:Nat):Int):=by
   rw [rF (by omega),bY (by omega) (by omega)]; omega
  have e3:(((51*i+k:Nat):Int)).tmod 8=(((51*i+k)%8:Nat):Int):=by
   rw [lM (by omega)]; omega
  rw [aF,aBZ,aE (by omega),aB,e1,e2,e3,aE (by omega),aB,aH (by omega),aD,aH (by omega),aD,aB,bE,bS,aSw n i k (by omega),aJE n (51*i+k) (by omega),bY (by omega) (by omega)];exact h
theorem aSx (n:Nat) (zs:List Int) (fu:Nat) (hfu:51 < fu):∀ (d m i:Nat),i+d=5->d < m ->
  eS prog Mf fu Ev (ID _ pD (λ t=>(t.a:Int)) (λ t=>(t.b:Int)) (λ t=>(t.c:Int)) (λ t=>(t.d:Int)) (λ t=>(t.e:Int)) fu) m
   (some (IC [((fe n).a:Int),(fe n).b,(fe n).c,(fe n).d,(fe n).e] (i:Int) zs (lo 32 (n%2 ^ (51*i)))))=some (lR (lo 32 (n%2 ^ 255))):=by
 intro d
 induction d with
 | zero=>
  intro m i hi hm;obtain ⟨m,rfl⟩:=aP (by omega:m ≠ 0);have e:i=5:=by omega
  subst e;rw [aF,aBY,aH (by omega),aD,aR,aB0]; rfl
 | succ d ih=>
  intro m i hi hm;obtain ⟨m,rfl⟩:=aP (by omega:m ≠ 0);have h:=ih m (i+1) (by omega) (by omega);rw [aF,aBY,aE (by omega),aB,aE (by omega),aB,bE];have g:=aXv n [((fe n).a:Int),(fe n).b,(fe n).c,(fe n).d,(fe n).e] zs fu (eS prog Mf fu Ev (ID _ pD (λ t=>(t.a:Int)) (λ t=>(t.b:Int)) (λ t=>(t.c:Int)) (λ t=>(t.d:Int)) (λ t=>(t.e:Int)) fu) m)
   (zL (ID _ pD (λ t=>(t.a:Int)) (λ t=>(t.b:Int)) (λ t=>(t.c:Int)) (λ t=>(t.d:Int)) (λ t=>(t.e:Int)) fu)) i (by omega) 51 fu 0 (by omega) hfu
  rw [fH] at g;have hg:([((fe n).a:Int),(fe n).b,(fe n).c,(fe n).d,(fe n).e]:List Int).getD i 0=((n / 2 ^ (51*i)%2251799813685248:Nat):Int):=by
   have hi5:i < 5:=by omega
   clear hi h g ih
   match i,hi5 with
   | n+5,h=>exact absurd h (by omega)
   | 0,_=>simp [fe]
   | 1,_=>rfl
   | 2,_=>rfl
   | 3,_=>rfl
   | 4,_=>rfl
  rw [hg];exact g.trans h
theorem Ky:CallOk prog 86 MS:=by
 refine aZ (fu:=λ _=>60) aJD Tryz.func86 ?_;intro args t ht;obtain ⟨x,rfl,hx,rfl⟩:=pY (F:=λ x=>lo 32 (fv x%aJ)) ht;have c:=sX hx;simp only [eF] at c;refine (aQ6 ..).trans ?_;rw [c,aC];have h:=aSx (fv x%aJ) (List.replicate 32 0) 60 (by omega) 5 60 0 (by omega) (by omega);rw [aV (a:=fv x%aJ) (b:=2 ^ 255) (fC (eM _) (by decide +kernel)),sM,jL,uV] at h;exact h
theorem IF {x:Fe} (h:cN x):A1 [eF x]=some (lo 32 (fv x%aJ)):=by
 simp only [A1,MS];exact zR (λ x=>lo 32 (fv x%aJ)) h
theorem aJF (a:List Int):fv (rR a)=vB a%DJ%aJ:=B6 (fC (eM _) (by decide))
abbrev aSy:Cg:=aOb (Fe) MT (λ t=>↑t.a) (λ t=>↑t.b) (λ t=>↑t.c) (λ t=>↑t.d) (λ t=>↑t.e) (List Int) A1 (λ t=>t)
theorem aJG:CfOk prog aSy.c:=gk <| aA QD <| aA Ky <| aK
theorem QE {a:List Int} (ha:fR a=true):(lo 32 (fv (rR a)%aJ)=a) ↔ vB a < aJ:=by
 obtain ⟨hl,hb⟩:=j3 ha;have h2:=GS a hb;rw [hl] at h2;rw [aJF,sL];constructor
 ·intro h;have:=dQ vB h;rw [GQ,aV (fC (eM _) (by decide +kernel))] at this;rw [<-this]; exact eM _
 ·intro h;rw [aV (fC h (by decide)),aV h,<-hl];exact Jb a hb
theorem Y4:CallOk prog 117 Gx:=by
 refine i4 aJG Tryz.func117 ?_;intro args t ht;obtain ⟨a,rfl,ha,rfl⟩:=nG (F:=Es) ht;have c:=Kx ha;have c2:=IF (cV (vB a%DJ%aJ));simp only [lR] at c;simp only [eF] at c2;refine (aRc ..).trans ?_;rw [c,aC];show ((A1 [AV.agg (TRow.ints u64 [((fe (vB a%DJ%aJ)).a:Int),(fe (vB a%DJ%aJ)).b,(fe (vB a%DJ%aJ)).c,(fe (vB a%DJ%aJ)).d,(fe (vB a%DJ%aJ)).e]) 5]).bind λ (dH:List Int)=>_)=_;rw [c2,aC];show _=some (Gx.enc (Es a));by_cases h:vB a < aJ
 ·have hs:lo 32 (fv (fe (vB a%DJ%aJ))%aJ)=a:=(QE ha).2 h;have hp:Es a=(fe (vB a),0):=by rw [Es,dL.mpr h]; rfl
  have hf:rR a=fe (vB a):=by
   rw [rR,aV (a:=vB a) (fC h (by decide)),aV h]
  rw [aE hs,hp,jW,aD,hf];rfl
 ·have hs:¬ lo 32 (fv (fe (vB a%DJ%aJ))%aJ)=a:=λ e=>h ((QE ha).1 e);have hp:Es a=(f0,7):=by
   rw [Es];cases hb:Nat.blt (vB a) aJ
   ·rfl
   ·exact absurd (dL.mp hb) h
  rw [aH hs,hp];rfl
theorem TH {a:List Int} (h:fR a=true):MU [lR a]=some (Es a):=by
 simp only [MU,Gx];exact xM Es h
section
variable (T0:Type) (R0:FA T0) (aG:T0->List Int) (aM:T0->Nat) (cB:T0->Bool)
def aOu:Cg:=⟨⟨dD [(102,⟨R0,λ t=>AV.tup [.s (dI (aG t) (aM t)),.s (.pl (.bool (cB t)))]⟩)],[],dS⟩,[]⟩
theorem aSz (fu:Nat) (s:Str):bB prog Tryz.f56 (aOu T0 R0 aG aM cB) fu [.str s]=(R0 [.str s]).bind λ t=>some (AV.s (dI (aG t) (aM t))):=by kernel_rfl
end
section
variable (T0:Type) (R0:FA T0) (aG:T0->List Int) (aM:T0->Nat)
def aOv:Cg:=⟨⟨dD [(56,⟨R0,λ t=>AV.s (dI (aG t) (aM t))⟩)],[],dS⟩,[]⟩
theorem aSA (fu:Nat):bB prog Tryz.f45 (aOv T0 R0 aG aM) fu []=(R0 [.str ([(53:UInt8),55,56,57,54,48,52,52,54,49,56,54,53,56,48,57,55,55,49,49,55,56,53,52,57,50,53,48,52,51,52,51,57,53,51,57,50,54].append [(54:UInt8),51,52,57,57,50,51,51,50,56,50,48,50,56,50,48,49,57,55,50,56,55,57,50,48,48,51,57,53,54,53,54,52,56,49,57,57,52,57])]).bind λ t=>some (AV.s (dI (aG t) (aM t))):=by kernel_rfl
end
section
variable (T0:Type) (R0:FA T0) (aG:T0->List Int) (aM:T0->Nat) (T1:Type) (R1:FA T1) (aN:T1->List Int) (bI:T1->Nat) (T2:Type) (R2:FA T2) (bC:T2->List Int) (bW:T2->Nat) (T3:Type) (R3:FA T3) (bO:T3->Int) (T4:Type) (R4:FA T4) (eV:T4->List Int) (jS:T4->Nat)
def zV:Cg:=⟨⟨dD [(94,⟨R0,λ t=>AV.s (dI (aG t) (aM t))⟩),(53,⟨R1,λ t=>AV.s (dI (aN t) (bI t))⟩),(45,⟨R2,λ t=>AV.s (dI (bC t) (bW t))⟩),(44,⟨R3,λ t=>AV.int .i64 (bO t)⟩),(55,⟨R4,λ t=>AV.s (dI (eV t) (jS t))⟩)],[],dS⟩,[(2,[0],[0]),(5,[0,3],[0,3]),(9,[0,4],[0])]⟩
def Mg (x0:List Int) (n0:Nat):St:={ tm:=[(0,.s (dI x0 n0))],hp:=[],nx:=0,sz:=41 }
def TI:Code:=cM (bN [1,0,2] (bD Tryz.f93))
def Mh (fu:Nat):=lO prog (zV T0 R0 aG aM T1 R1 aN bI T2 R2 bC bW T3 R3 bO T4 R4 eV jS) fu [1,0,2] (bD Tryz.f93) (fQ prog Tryz.f93)
abbrev aSB (fu:Nat) (x0:List Int) (n0:Nat):=eS prog (zV T0 R0 aG aM T1 R1 aN bI T2 R2 bC bW T3 R3 bO T4 R4 eV jS) fu TI (Mh T0 R0 aG aM T1 R1 aN bI T2 R2 bC bW T3 R3 bO T4 R4 eV jS fu ) fu (some (Mg x0 n0))
theorem aSC (fu:Nat) (x:Nat):bB prog Tryz.f93 (zV T0 R0 aG aM T1 R1 aN bI T2 R2 bC bW T3 R3 bO T4 R4 eV jS) fu [eN x]=aSB T0 R0 aG aM T1 R1 aN bI T2 R2 bC bW T3 R3 bO T4 R4 eV jS fu (nb x) (nb x).length:=by kernel_rfl
def IG (x0:List Int) (n0:Nat):St:={ tm:=[(0,.s (dI x0 n0))],hp:=[],nx:=0,sz:=41 }
theorem TJ {β:Type} (fu:Nat) (G:FG β) (H:FH β) (x0:List Int) (n0:Nat):fI prog (zV T0 R0 aG aM T1 R1 aN bI T2 R2 bC bW T3 R3 bO T4 R4 eV jS) fu TI G H (Mg x0 n0)=bif decide (32 < (n0:Int)) then bif decide ((0:Int) <= 0 /\ (0:Int) <= 32 /\ (32:Int) <= 32 /\ 32 <= (n0:Int)) then bif decide ((0:Int) <= 32 /\ 32 <= (n0:Int) /\ (n0:Int) <= (n0:Int)) then (R0 [.s (.dat (.ints .i64 (List.take (((n0:Int) - 32).toNat*1) (List.drop 32 x0))) ((n0:Int) - 32).toNat 1),.s (dI [38] 1)]).bind λ t=>(R1 [.s (dI (List.take 32 (List.drop 0 x0)) 32),.s (dI (aG t) (aM t))]).bind λ t=>G (some (Mg (aN t) (bI t))) else none else none else H (Ex.exit 0) (some (IG x0 n0)):=by kernel_rfl
def Mi (x0:List Int) (n0:Nat) (v3:Int):St:={ tm:=[(0,.s (dI x0 n0)),(3,.int .i64 v3)],hp:=[],nx:=0,sz:=41 }
def Mj:Code:=cM (bN [1,1,1,0,2] (bD Tryz.f93))
def aCp (fu:Nat):=lO prog (zV T0 R0 aG aM T1 R1 aN bI T2 R2 bC bW T3 R3 bO T4 R4 eV jS) fu [1,1,1,0,2] (bD Tryz.f93) (fQ prog Tryz.f93)
abbrev aSD (fu:Nat) (x0:List Int) (n0:Nat) (v3:Int):=eS prog (zV T0 R0 aG aM T1 R1 aN bI T2 R2 bC bW T3 R3 bO T4 R4 eV jS) fu Mj (aCp T0 R0 aG aM T1 R1 aN bI T2 R2 bC bW T3 R3 bO T4 R4 eV jS fu ) fu (some (Mi x0 n0 v3))
theorem aCq (fu:Nat) (x0:List Int) (n0:Nat):Mh T0 R0 aG aM T1 R1 aN bI T2 R2 bC bW T3 R3 bO T4 R4 eV jS fu  (Ex.exit 0) (IG x0 n0)=aSD T0 R0 aG aM T1 R1 aN bI T2 R2 bC bW T3 R3 bO T4 R4 eV jS fu x0 n0 (n0:Int):=by kernel_rfl
def DT (x0:List Int) (n0:Nat) (v3:Int):St:={ tm:=[(0,.s (dI x0 n0)),(3,.int .i64 v3)],hp:=[],nx:=0,sz:=41 }
theorem aSE {β:Type} (fu:Nat) (G:FG β) (H:FH β) (x0:List Int) (n0:Nat) (v3:Int):fI prog (zV T0 R0 aG aM T1 R1 aN bI T2 R2 bC bW T3 R3 bO T4 R4 eV jS) fu Mj G H (Mi x0 n0 v3)=bif decide (0 < v3) then bif decide (0 <= i64.wrap (v3 - 1) /\ i64.wrap (v3 - 1) < (n0:Int)) then bif decide (x0.getD (i64.wrap (v3 - 1)).toNat (0:Int)=0) then G (some (Mi x0 n0 (i64.wrap (v3 - 1)))) else H (Ex.exit 2) (some (DT x0 n0 v3)) else none else H (Ex.exit 2) (some (DT x0 n0 v3)):=by kernel_rfl
def Mk (x0:List Int) (n0:Nat) (x4:List Int) (n4:Nat):St:={ tm:=[(0,.s (dI x0 n0)),(4,.s (dI x4 n4))],hp:=[],nx:=0,sz:=41 }
def TK:Code:=cM (bN [1,1,1,1,1,1,0,2] (bD Tryz.f93))
def TL (fu:Nat):=lO prog (zV T0 R0 aG aM T1 R1 aN bI T2 R2 bC bW T3 R3 bO T4 R4 eV jS) fu [1,1,1,1,1,1,0,2] (bD Tryz.f93) (fQ prog Tryz.f93)
abbrev aSF (fu:Nat) (x0:List Int) (n0:Nat) (x4:List Int) (n4:Nat):=eS prog (zV T0 R0 aG aM T1 R1 aN bI T2 R2 bC bW T3 R3 bO T4 R4 eV jS) fu TK (TL T0 R0 aG aM T1 R1 aN bI T2 R2 bC bW T3 R3 bO T4 R4 eV jS fu ) fu (some (Mk x0 n0 x4 n4))
theorem aCr (fu:Nat) (x0:List Int) (n0:Nat) (v3:Int):aCp T0 R0 aG aM T1 R1 aN bI T2 R2 bC bW T3 R3 bO T4 R4 eV jS fu  (Ex.exit 2) (DT x0 n0 v3)=bif decide ((0:Int) <= 0 /\ 0 <= v3 /\ v3 <= (n0:Int)) then (R2 []).bind λ t=>aSF T0 R0 aG aM T1 R1 aN bI T2 R2 bC bW T3 R3 bO T4 R4 eV jS fu (List.take ((v3 - 0).toNat*1) (List.drop 0 x0)) (v3 - 0).toNat (bC t) (bW t) else none:=by kernel_rfl
def QF (x0:List Int) (n0:Nat):St:={ tm:=[(0,.s (dI x0 n0))],hp:=[],nx:=0,sz:=41 }
theorem aCs {β:Type} (fu:Nat) (G:FG β) (H:FH β) (x0:List Int) (n0:Nat) (x4:List Int) (n4:Nat):fI prog (zV T0 R0 aG aM T1 R1 aN bI T2 R2 bC bW T3 R3 bO T4 R4 eV jS) fu TK G H (Mk x0 n0 x4 n4)=(R3 [.s (dI x0 n0),.s (dI x4 n4)]).bind λ t=>bif decide (0 <= bO t) then (R4 [.s (dI x0 n0),.s (dI x4 n4)]).bind λ t=>G (some (Mk (eV t) (jS t) x4 n4)) else H (Ex.exit 4) (some (QF x0 n0)):=by kernel_rfl
theorem QG (fu:Nat) (x0:List Int) (n0:Nat):TL T0 R0 aG aM T1 R1 aN bI T2 R2 bC bW T3 R3 bO T4 R4 eV jS fu  (Ex.exit 4) (QF x0 n0)=some (AV.s (dI x0 n0)):=by kernel_rfl
end
def QH:Cg:=⟨⟨dD [],[],dS⟩,[(4,[0,2,3,4],[2,3])]⟩
def Ml (x0:List Int) (n0:Nat) (v4:Int) (aQ bA:List Int):St:={ tm:=[(0,.s (dI x0 n0)),(2,.s (.ptr 0 0 32)),(3,.s (.ptr 1 0 32)),(4,.int .i64 v4)],hp:=[(0,{ ty:=23,n:=32,row:=Row.t (.ints .u8 aQ) }),(1,{ ty:=23,n:=32,row:=Row.t (.ints .u8 bA) })],nx:=2,sz:=23 }
def TM:Code:=cM (bN [1,1,0,1,2] (bD Tryz.f99))
def TN (fu:Nat):=lO prog QH fu [1,1,0,1,2] (bD Tryz.f99) (fQ prog Tryz.f99)
abbrev aSG (fu:Nat) (x0:List Int) (n0:Nat) (v4:Int) (aQ bA:List Int):=eS prog QH fu TM (TN fu ) fu (some (Ml x0 n0 v4 aQ bA))
theorem aSH (fu:Nat) (x:Nat):bB prog Tryz.f99 QH fu [eN x]=aSG fu (nb x) (nb x).length 0 [0,0,0,0,0,0,0,0,0,0,0,0,0,0,0,0,0,0,0,0,0,0,0,0,0,0,0,0,0,0,0,0] [0,0,0,0,0,0,0,0,0,0,0,0,0,0,0,0,0,0,0,0,0,0,0,0,0,0,0,0,0,0,0,0]:=by kernel_rfl
def QI (aQ bA:List Int):St:={ tm:=[(2,.s (.ptr 0 0 32)),(3,.s (.ptr 1 0 32))],hp:=[(0,{ ty:=23,n:=32,row:=Row.t (.ints .u8 aQ) }),(1,{ ty:=23,n:=32,row:=Row.t (.ints .u8 bA) })],nx:=2,sz:=23 }
theorem aCt {β:Type} (fu:Nat) (G:FG β) (H:FH β) (x0:List Int) (n0:Nat) (v4:Int) (aQ bA:List Int):fI prog QH fu TM G H (Ml x0 n0 v4 aQ bA)=bif decide (v4 < (n0:Int)) && decide (v4 < 32) then bif decide (0 <= v4 /\ v4 < (n0:Int)) then bif decide (0 <= v4 /\ v4 < 32) then G (some (Ml x0 n0 (i64.wrap (v4+1)) aQ (bA.set (0+v4.toNat) (u8.wrap (x0.getD v4.toNat 0))))) else none else none else H (Ex.exit 0) (some (QI aQ bA)):=by kernel_rfl
theorem aCu (fu:Nat) (aQ bA:List Int):TN fu  (Ex.exit 0) (QI aQ bA)=some (AV.agg (.ints .u8 bA) 32):=by kernel_rfl
section
variable (T0:Type) (R0:FA T0) (aG:T0->List Int) (aM:T0->Nat) (T1:Type) (R1:FA T1) (aN:T1->List Int) (bI:T1->Nat)
def aOw:Cg:=⟨⟨dD [(53,⟨R0,λ t=>AV.s (dI (aG t) (aM t))⟩),(93,⟨R1,λ t=>AV.s (dI (aN t) (bI t))⟩)],[],dS⟩,[]⟩
theorem aSI (fu:Nat) (x y:Nat):bB prog Tryz.f48 (aOw T0 R0 aG aM T1 R1 aN bI) fu [eN x,eN y]=(R0 [.s (dI (nb x) (nb x).length),.s (dI (nb y) (nb y).length)]).bind λ t=>(R1 [.s (dI (aG t) (aM t))]).bind λ t=>some (AV.s (dI (aN t) (bI t))):=by kernel_rfl
end
section
variable (T0:Type) (R0:FA T0) (aG:T0->List Int) (aM:T0->Nat) (T1:Type) (R1:FA T1) (aN:T1->List Int) (bI:T1->Nat) (T2:Type) (R2:FA T2) (bC:T2->List Int) (bW:T2->Nat) (T3:Type) (R3:FA T3) (bO:T3->List Int) (cI:T3->Nat)
def aOx:Cg:=⟨⟨dD [(45,⟨R0,λ t=>AV.s (dI (aG t) (aM t))⟩),(53,⟨R1,λ t=>AV.s (dI (aN t) (bI t))⟩),(55,⟨R2,λ t=>AV.s (dI (bC t) (bW t))⟩),(93,⟨R3,λ t=>AV.s (dI (bO t) (cI t))⟩)],[],dS⟩,[]⟩
theorem aSJ (fu:Nat) (x y:Nat):bB prog Tryz.f41 (aOx T0 R0 aG aM T1 R1 aN bI T2 R2 bC bW T3 R3 bO cI) fu [eN x,eN y]=(R0 []).bind λ t=>(R1 [.s (dI (nb x) (nb x).length),.s (dI (aG t) (aM t))]).bind λ t=>(R2 [.s (dI (aN t) (bI t)),.s (dI (nb y) (nb y).length)]).bind λ t=>(R3 [.s (dI (bC t) (bW t))]).bind λ t=>some (AV.s (dI (bO t) (cI t))):=by kernel_rfl
end
section
variable (T0:Type) (R0:FA T0) (aG:T0->List Int) (aM:T0->Nat) (T1:Type) (R1:FA T1) (aN:T1->List Int) (bI:T1->Nat)
def aOy:Cg:=⟨⟨dD [(94,⟨R0,λ t=>AV.s (dI (aG t) (aM t))⟩),(93,⟨R1,λ t=>AV.s (dI (aN t) (bI t))⟩)],[],dS⟩,[]⟩
theorem aSK (fu:Nat) (x y:Nat):bB prog Tryz.f40 (aOy T0 R0 aG aM T1 R1 aN bI) fu [eN x,eN y]=(R0 [.s (dI (nb x) (nb x).length),.s (dI (nb y) (nb y).length)]).bind λ t=>(R1 [.s (dI (aG t) (aM t))]).bind λ t=>some (AV.s (dI (aN t) (bI t))):=by kernel_rfl
end
def aCv:Cg:=⟨⟨dD [],[],dS⟩,[]⟩
theorem aJH (fu:Nat) (x:Nat):bB prog Tryz.f46 aCv fu [eN x]=bif decide (0 < (↑(nb x).length:Int)) then bif decide ((0:Int) <= 0 /\ 0 < (↑(nb x).length:Int)) then some (AV.bool (decide (((nb x).getD 0 0).tmod (2:Int)=1))) else none else some (AV.bool false):=by kernel_rfl
section
variable (T0:Type) (R0:FA T0) (aG:T0->Bool) (T1:Type) (R1:FA T1) (aN:T1->List Int) (bI:T1->Nat)
def aOz:Cg:=⟨⟨dD [(46,⟨R0,λ t=>AV.bool (aG t)⟩),(41,⟨R1,λ t=>AV.s (dI (aN t) (bI t))⟩)],[],dS⟩,[]⟩
theorem aSL (fu:Nat) (x:Nat):bB prog Tryz.f50 (aOz T0 R0 aG T1 R1 aN bI) fu [eN x]=(R0 [.s (dI (nb x) (nb x).length)]).bind λ t=>bif aG t then (R1 [.s (dI [] 0),.s (dI (nb x) (nb x).length)]).bind λ t=>some (AV.s (dI (aN t) (bI t))) else some (AV.s (dI (nb x) (nb x).length)):=by kernel_rfl
end
section
variable (T0:Type) (R0:FA T0) (aG aM cB cE cR:T0->Int) (T1:Type) (R1:FA T1) (aN bI gV gW iL:T1->Int) (T2:Type) (R2:FA T2) (T3:Type) (R3:FA T3) (bO cI qG zG zH:T3->Int) (T4:Type) (R4:FA T4) (eV:T4->Bool) (T5:Type) (R5:FA T5) (fW:T5->Bool) (T6:Type) (R6:FA T6) (oH oI Ej Ek El:T6->Int)
end
section
variable (T0:Type) (R0:FA T0)
def aOA:Cg:=⟨⟨dD [(227,⟨R0,λ t=>AV.bool (true)⟩)],[],dS⟩,[]⟩
theorem aSM (fu:Nat):bB prog Tryz.f219 (aOA T0 R0) fu []=(R0 []).bind λ t=>some (AV.bool true):=by kernel_rfl
end
set_option maxRecDepth 4000
abbrev aSN:Cg:=aOu (Nat × Bool) AW (λ t=>nb t.fst) (λ t=>(nb t.fst).length) (λ t=>t.2)
theorem aJI:CfOk prog aSN.c:=gk <| aA KS <| aK
theorem Mm:CallOk prog 56 aBJ:=by
 refine i4 aJI Tryz.func56 ?_;intro args t ht;unfold aBJ at ht;simp only at ht;split at ht
 ·rename_i s;obtain ⟨h1,h2⟩:=cC ht;subst h2;refine (aSz ..).trans ?_;rw [Iy (jN h1),aC];cases wP s <;> rfl
 ·cases ht
abbrev aSO:Cg:=aOv (Nat) Vg (λ t=>nb t) (λ t=>(nb t).length)
theorem aJJ:CfOk prog aSO.c:=gk <| aA Mm <| aK
theorem Kz:CallOk prog 45 sRP:=by
 refine i4 aJJ Tryz.func45 ?_;intro args t ht;unfold sRP at ht;simp only at ht;split at ht
 ·cases ht;refine (aSA ..).trans ?_;refine iR (b:=(some aJ).bind λ (t:Nat)=>some (AV.s (SV.dat (TRow.ints i64 (nb t)) (nb t).length 1))) ?_ rfl;congr 1
 ·cases ht
theorem E4:rRP []=some aJ:=rfl
theorem CY (x k:Nat):k < (nb x).length ↔ 256 ^ k <= x:=by
 constructor
 ·exact Ll
 ·intro h;rcases pS k (nb x).length with g | g
  ·exact g
  ·have:=rN x;have:=iK (n:=256) (by decide) g;omega
theorem dA {x k:Nat} (h:x < 256 ^ k):(nb x).length <= k:=yI h
theorem aCw (k:Nat):∀ (j x:Nat),lo (j+k) x=lo j x++lo k (x / 256 ^ j):=by
 intro j
 induction j with
 | zero=>intro x; simp [lo]
 | succ j ih=>
  intro x;rw [show j+1+k=(j+k)+1 by omega,lo,lo,ih,Fr,gR,bM,cG 256]
theorem Vr (x j:Nat) (h:j <= (nb x).length):(nb x).drop j=nb (x / 256 ^ j):=by
 have e:=Jd x;have hk:(nb (x / 256 ^ j)).length=(nb x).length - j:=by
  refine Nat.le_antisymm (yI ?_) ?_
  ·rw [BU (gS (by decide)),<-dM,show (nb x).length - j+j=(nb x).length by omega];exact rN x
  ·rcases Ee ((nb x).length - j) with h0 | h0
   ·omega
   ·have:(nb x).length - j - 1 < (nb (x / 256 ^ j)).length:=by
     rw [CY,Nat.le_div_iff_mul_le (gS (by decide)),<-dM,<-CY];omega
    omega
 rw [Jd (x / 256 ^ j),hk,e,i7,show (nb x).length=j+((nb x).length - j) by omega,aCw,List.drop_left' (i7 ..)];rw [show j+((nb x).length - j) - j=(nb x).length - j by omega]
theorem aZ4:AV.s (SV.dat (TRow.ints i64 [(38:Int)]) 1 1)=eN 38:=rfl
abbrev IH:Cg:=zV (Nat) uK (λ t=>nb t) (λ t=>(nb t).length) (Nat) jF (λ t=>nb t) (λ t=>(nb t).length) (Nat) rRP (λ t=>nb t) (λ t=>(nb t).length) (Int) nZ (λ t=>t) (Nat) pL (λ t=>nb t) (λ t=>(nb t).length)
theorem aJK:CfOk prog IH.c:=gk <| aA FC <| aA sN <| aA Kz <| aA BC <| aA wF <| aK
theorem TO:(nb aJ).length=32:=by decide +kernel
theorem rd3 (fu:Nat):∀ (d n x:Nat),x < (d+1)*aJ->x < 256 ^ 32->d < n ->
  eS prog IH fu TK (TL _ uK (λ t=>nb t) (λ t=>(nb t).length) _ jF (λ t=>nb t) (λ t=>(nb t).length) _ rRP (λ t=>nb t) (λ t=>(nb t).length) _ nZ (λ t=>t) _ pL (λ t=>nb t) (λ t=>(nb t).length) fu) n (some (Mk (nb x) (nb x).length (nb aJ) (nb aJ).length))=some (eN (x%aJ)):=by
 intro d;have hP:=TO
 induction d with
 | zero=>
  intro n x hx hx2 hn;obtain ⟨n,rfl⟩:=aP (by omega:n ≠ 0);have hl:=dA hx2;have hc:=mJ (x:=x) (y:=aJ) (by omega) (by omega);simp only [eN] at hc;rw [aF,aCs,hc,aC,BJ,aH (by omega),aD,aR,QG,aV (by omega)];rfl
 | succ d ih=>
  intro n x hx hx2 hn;obtain ⟨n,rfl⟩:=aP (by omega:n ≠ 0);have hl:=dA hx2;have hc:=mJ (x:=x) (y:=aJ) (by omega) (by omega);simp only [eN] at hc;rw [aF,aCs,hc,aC,BJ];by_cases c:aJ <= x
  ·have hs:=oZ (x:=x) (y:=aJ) (by omega) (by omega) c;simp only [eN] at hs;rw [aE c,aB,hs,aC,Nat.mod_eq_sub_mod c];exact ih n (x - aJ) (by rw [gL] at hx; omega) (by omega) (by omega)
  ·rw [aH c,aD,aR,QG,aV (by omega)];rfl
theorem rd2 (fu:Nat) (hfu:3 < fu) (x:Nat) (hx:x < 256 ^ 32):Mh _ uK (λ t=>nb t) (λ t=>(nb t).length) _ jF (λ t=>nb t) (λ t=>(nb t).length) _ rRP (λ t=>nb t) (λ t=>(nb t).length) _ nZ (λ t=>t) _ pL (λ t=>nb t) (λ t=>(nb t).length) fu (.exit 0) (IG (nb x) (nb x).length)=some (eN (x%aJ)):=by
 obtain ⟨m,rfl⟩:=aP (by omega:fu ≠ 0);have hl:=dA hx;have hr:∀ (fu':Nat) (G:Option St->Option AV) (H:Ex->Option St->Option AV),fI prog IH fu' Mj G H (Mi (nb x) (nb x).length ((nb x).length:Int))=H (.exit 2) (some (DT (nb x) (nb x).length ((nb x).length:Int))):=by
  intro fu' G H;rw [aSE];by_cases h0:(nb x).length=0
  ·rw [aH (by omega),aD]
  ·have ht:=xT (nb x) ((nb x).length - 1) (by rw [Jc]; omega);have e:i64.wrap (((nb x).length:Int) - 1)=(((nb x).length - 1:Nat):Int):=by rw [bY (by omega) (by omega)]; omega
   rw [aE (by omega),aB,e,aE (by omega),aB,bE,aH ht,aD]
 refine (aCq ..).trans ?_;show eS prog IH (m+1) Mj _ (m+1) (some _)=_;rw [aF,hr,aR,aCr,aE (by omega),aB,E4,aC,Int.sub_zero,bE,iY,kU,Ec];exact rd3 (m+1) 2 (m+1) x (by simp only [aJ]; simp only [Nat.reducePow] at hx; omega) hx (by omega)
theorem rd1 (fu:Nat) (hfu:3 < fu):∀ (d n x:Nat),(∀ y,y=x->True)->d < n->(d=0->x < 256 ^ 32)->(d=1->x < 256 ^ 32+256 ^ 31)->(d=2->x < 39*256 ^ 32)->(d=3->x < 256 ^ 64)->d <= 3 ->
  eS prog IH fu TI (Mh _ uK (λ t=>nb t) (λ t=>(nb t).length) _ jF (λ t=>nb t) (λ t=>(nb t).length) _ rRP (λ t=>nb t) (λ t=>(nb t).length) _ nZ (λ t=>t) _ pL (λ t=>nb t) (λ t=>(nb t).length) fu) n (some (Mg (nb x) (nb x).length))=some (eN (x%aJ)):=by
 intro d
 induction d with
 | zero=>
  intro n x _ hn h0 _ _ _ _;obtain ⟨n,rfl⟩:=aP (by omega:n ≠ 0);have hl:=dA (h0 rfl);rw [aF,TJ,aH (by omega),aD,aR];exact rd2 fu hfu x (h0 rfl)
 | succ d ih=>
  intro n x _ hn h0 h1 h2 h3 hd;obtain ⟨n,rfl⟩:=aP (by omega:n ≠ 0);have hx:x < 256 ^ 64:=by
   simp only [Nat.reducePow] at *;rcases (by omega:d=0 ∨ d=1 ∨ d=2) with rfl | rfl | rfl
   ·have:=h1 rfl; omega
   ·have:=h2 rfl; omega
   ·exact h3 rfl
  have hl:=dA hx;by_cases c:x < 256 ^ 32
  ·have hl:=dA c;rw [aF,TJ,aH (by omega),aD,aR];exact rd2 fu hfu x c
  ·have hlt:32 < (nb x).length:=(CY x 32).2 (by omega);have hq:x / 256 ^ 32 < 256 ^ 32:=by
    rw [BU (gS (by decide)),<-dM]; exact hx
   have hm:=Ce (x:=x / 256 ^ 32) (y:=38) (cK (dA hq) (by decide)) (by decide);have hq38:x / 256 ^ 32*38 < 256 ^ 33:=by simp only [Nat.reducePow] at hq ⊢; omega
   have ht:((nb x).take 32).length=32:=by rw [dV]; omega
   have ha:=Q6 (a:=(nb x).take 32) (y:=x / 256 ^ 32*38) (Q0 32 (Co x)) (by omega) (cK (dA hq38) (by decide));rw [ht,Wo _ _ (Co x),fY] at ha;simp only [eN] at hm ha;have e1:(((nb x).length:Int) - 32).toNat=(nb x).length - 32:=by omega
   have e2:List.take ((nb x).length - 32) (List.drop 32 (nb x))=nb (x / 256 ^ 32):=by
    rw [fB (by rw [kX]; omega),Vr x 32 (by omega)]
   have e3:(nb x).length - 32=(nb (x / 256 ^ 32)).length:=by
    rw [<-Vr x 32 (by omega),kX]
   rw [aF,TJ,aE (by omega),aB,aE (by omega),aB,aE (by omega),aB,e1,iY,e2,e3,aZ4,eN,hm,aC,kU,ha,aC];have hmod:x%aJ=(x%256 ^ 32+x / 256 ^ 32*38)%aJ:=by
    have:x=x%256 ^ 32+x / 256 ^ 32*38+aJ*(2*(x / 256 ^ 32)):=by
     have:=eO x (256 ^ 32);simp only [Nat.reducePow,aJ] at *;omega
    rw [this,BT,<-this]
   rw [hmod];refine ih n _ (λ _ _=>trivial) (by omega) ?_ ?_ ?_ ?_ (by omega)
   ·intro hd0;have:=h1 (by omega);simp only [Nat.reducePow] at *;omega
   ·intro hd0;have:=h2 (by omega);simp only [Nat.reducePow] at *;omega
   ·intro hd0;simp only [Nat.reducePow] at *;omega
   ·intro hd0; omega
theorem TP:CallOk prog 93 aIt:=by
 refine aZ (fu:=λ _=>6) aJK Tryz.func93 ?_;intro args t ht;unfold aIt mF at ht;simp only at ht;split at ht
 ·rename_i a n;obtain ⟨h1,h2⟩:=cC ht;rw [aX] at h1;obtain ⟨x,rfl,rfl,hx,ex⟩:=oY h1.1;have h3:=dL.mp h1.2;rw [ex] at h3 h2;subst h2;refine (aSC ..).trans ?_;exact rd1 6 (by omega) 3 6 x (λ _ _=>trivial) (by omega) (by omega) (by omega) (by omega) (λ _=>h3) (by omega)
 ·cases ht
theorem Mn {x:Nat} (h:x < lG):aBK [eN x]=some (x%aJ):=by
 have hl:(nb x).length <= 64:=dA h;simp only [aBK,aIt,mF,eN];rw [nP (by omega),fY,dL.mpr h]; rfl
theorem G6 (R:List Int) (N i:Nat) (hN:R.length=N) (hi:i < N):(R.take i++List.replicate (N - i) 0).set i (R.getD i 0)=R.take (i+1)++List.replicate (N - (i+1)) 0:=by
 have e:R.take (i+1)=R.take i++[R.getD i 0]:=by
  rw [Hl,oD (by omega),fU,oD (by omega)]; rfl
 have hl:(R.take i).length=i:=by rw [dV]; omega
 rw [e,Eb _ _ (by rw [hl]; omega),hl,i0,show N - i=N - (i+1)+1 by omega,Fy,yS,lN]; rfl
abbrev aCx:Cg:=QH 
theorem aJL:CfOk prog aCx.c:=gk <| aK
theorem aJM (x i:Nat) (hi:i <= 32) (h:x%256 ^ 32 < 256 ^ i):(lo 32 x).take i++List.replicate (32 - i) 0=lo 32 x:=by
 have hl:((lo 32 x).take i).length=i:=by rw [dV,i7]; omega
 refine aCo ?_ (tJ ..) (by rw [i9,hl,List.length_replicate,i7]; omega) ?_
 ·rw [Xt,Q0 i (tJ ..),Wp]; rfl
 ·rw [aGb,aEs,sM,fH,Wo _ _ (tJ ..),GQ];exact aV h
theorem aCy (x:Nat) (hx:(nb x).length <= 1048576) (zs:List Int) (fu:Nat):∀ (d n i:Nat),i+d=min (nb x).length 32->d < n ->
  eS prog aCx fu TM (TN fu) n (some (Ml (nb x) (nb x).length (i:Int) zs ((lo 32 x).take i++List.replicate (32 - i) 0)))=some (lR (lo 32 x)):=by
 intro d
 induction d with
 | zero=>
  intro n i hi hn;obtain ⟨n,rfl⟩:=aP (by omega:n ≠ 0);have he:x%256 ^ 32 < 256 ^ i:=by
   rcases pS 32 (nb x).length with c | c
   ·have:i=32:=by omega
    subst this;exact bK _ (gS (by decide))
   ·have:i=(nb x).length:=by omega
    subst this;exact iI (Nat.mod_le _ _) (rN x)
  have hc:(decide ((i:Int) < ((nb x).length:Int)) && decide ((i:Int) < 32))=false:=by
   rcases pS i (nb x).length with c | c
   ·rw [aH (by omega:¬ (i:Int) < 32),Bool.and_false]
   ·rw [aH (by omega:¬ (i:Int) < ((nb x).length:Int)),pC]
  rw [aF,aCt,hc,aD,aR,aCu,aJM x i (by omega) he];rfl
 | succ d ih=>
  intro n i hi hn;obtain ⟨n,rfl⟩:=aP (by omega:n ≠ 0);have h:=ih n (i+1) (by omega) (by omega);have g:u8.wrap ((nb x).getD i 0)=(lo 32 x).getD i 0:=by
   rw [AB x i (by omega),BM 32 x i (by omega),Dn,aV (uD x i)]; rfl
  rw [aF,aCt,aE (by omega:(i:Int) < ((nb x).length:Int)),aE (by omega:(i:Int) < 32),jX,aB,aE (by omega),aB,aE (by omega),aB,bE,bS,g,G6 (lo 32 x) 32 i (i7 ..) (by omega),bY (by omega) (by omega)];exact h
theorem aSP:CallOk prog 99 aQL:=by
 refine aZ (fu:=λ _=>40) aJL Tryz.func99 ?_;intro args t ht;obtain ⟨x,rfl,hx,rfl⟩:=Iw (F:=λ x=>lo 32 x) ht;refine (aSH ..).trans ?_;exact aCy x hx (List.replicate 32 0) 40 (min (nb x).length 32) 40 0 (by omega) (by omega)
theorem aJN {x:Nat} (h:(nb x).length <= 1048576):aIu [eN x]=some (lo 32 x):=by
 simp only [aIu,aQL];exact Ty (λ x=>lo 32 x) h
theorem rL {x:Nat} (h:x < aJ):(nb x).length <= 32:=dA (fC h (by decide +kernel))
theorem y6 {x:Nat} (h:bP x=true):x < aJ:=dL.mp h
theorem y7 {x:Nat} (h:x < aJ):bP x=true:=dL.mpr h
abbrev aSQ:Cg:=aOw (Nat) jF (λ t=>nb t) (λ t=>(nb t).length) (Nat) aBK (λ t=>nb t) (λ t=>(nb t).length)
theorem aJO:CfOk prog aSQ.c:=gk <| aA sN <| aA TP <| aK
theorem Mo:CallOk prog 48 aBL:=by
 refine i4 aJO Tryz.func48 ?_;intro args t ht;obtain ⟨x,y,rfl,hx,hy,hc,rfl⟩:=nQ (F:=λ a b=>(a+b)%aJ) (C:=λ a b=>bP a && bP b) ht;rw [aX] at hc;have h1:=y6 hc.1;have h2:=y6 hc.2;refine (aSI ..).trans ?_;have ha:=iO hx hy;have hr:=Mn (x:=x+y) (by simp only [aJ,lG] at *; omega);simp only [eN] at ha hr;rw [ha,aC,hr];rfl
theorem vZ {x y:Nat} (h1:x < aJ) (h2:y < aJ):F7 [eN x,eN y]=some ((x+y)%aJ):=by
 have l1:=rL h1;have l2:=rL h2;simp only [F7,aBL];exact xS (λ a b=>(a+b)%aJ) (λ a b=>bP a && bP b) (by omega) (by omega) (by rw [y7 h1,y7 h2]; rfl)
abbrev aSR:Cg:=aOx (Nat) rRP (λ t=>nb t) (λ t=>(nb t).length) (Nat) jF (λ t=>nb t) (λ t=>(nb t).length) (Nat) pL (λ t=>nb t) (λ t=>(nb t).length) (Nat) aBK (λ t=>nb t) (λ t=>(nb t).length)
theorem aJP:CfOk prog aSR.c:=gk <| aA Kz <| aA sN <| aA wF <| aA TP <| aK
theorem DU:CallOk prog 41 aBM:=by
 refine i4 aJP Tryz.func41 ?_;intro args t ht;obtain ⟨x,y,rfl,hx,hy,hc,rfl⟩:=nQ (F:=λ a b=>(a+aJ - b)%aJ) (C:=λ a b=>bP a && bP b) ht;rw [aX] at hc;have h1:=y6 hc.1;have h2:=y6 hc.2;refine (aSJ ..).trans ?_;have ha:=iO (y:=aJ) hx (by rw [TO]; omega);have hl:(nb (x+aJ)).length <= 33:=dA (by simp only [aJ,Nat.reducePow] at *; omega);have hs:=oZ (x:=x+aJ) (y:=y) (by omega) hy (by omega);have hr:=Mn (x:=x+aJ - y) (by simp only [aJ,lG] at *; omega);simp only [eN] at ha hr hs;rw [E4,aC,ha,aC,hs,aC,hr];rfl
theorem nI {x y:Nat} (h1:x < aJ) (h2:y < aJ):yY [eN x,eN y]=some ((x+aJ - y)%aJ):=by
 have l1:=rL h1;have l2:=rL h2;simp only [yY,aBM];exact xS (λ a b=>(a+aJ - b)%aJ) (λ a b=>bP a && bP b) (by omega) (by omega) (by rw [y7 h1,y7 h2]; rfl)
abbrev aSS:Cg:=aOy (Nat) uK (λ t=>nb t) (λ t=>(nb t).length) (Nat) aBK (λ t=>nb t) (λ t=>(nb t).length)
theorem aJQ:CfOk prog aSS.c:=gk <| aA FC <| aA TP <| aK
theorem aJR {x y:Nat} (h1:x < aJ) (h2:y < aJ):x*y < lG:=iI (iJ (Hn h1) (Hn h2)) (by decide +kernel)
theorem tX:CallOk prog 40 aBN:=by
 refine i4 aJQ Tryz.func40 ?_;intro args t ht;obtain ⟨x,y,rfl,hx,hy,hc,rfl⟩:=nQ (F:=λ a b=>a*b%aJ) (C:=λ a b=>bP a && bP b) ht;rw [aX] at hc;have h1:=y6 hc.1;have h2:=y6 hc.2;refine (aSK ..).trans ?_;have ha:=Ce hx hy;have hr:=Mn (x:=x*y) (aJR h1 h2);simp only [eN] at ha hr;rw [ha,aC,hr];rfl
theorem bJ {x y:Nat} (h1:x < aJ) (h2:y < aJ):oN [eN x,eN y]=some (x*y%aJ):=by
 have l1:=rL h1;have l2:=rL h2;simp only [oN,aBN];exact xS (λ a b=>a*b%aJ) (λ a b=>bP a && bP b) (by omega) (by omega) (by rw [y7 h1,y7 h2]; rfl)
abbrev aJS:Cg:=aCv 
theorem aCz:CfOk prog aJS.c:=gk <| aK
theorem Mp:CallOk prog 46 aBO:=by
 refine i4 aCz Tryz.func46 ?_;intro args t ht;obtain ⟨x,rfl,hx,rfl⟩:=Iw (F:=λ a=>Nat.beq (a%2) 1) ht;refine (aJH ..).trans ?_;show _=some (AV.bool (Nat.beq (x%2) 1));by_cases h:(nb x).length=0
 ·have h0:=(tK x).1 h;rw [aH (by omega),aD,h0]; rfl
 ·have hd:=AB x 0 (by omega);rw [dg,jL,uS] at hd;have e:(((nb x).getD 0 0).tmod 2=1) ↔ x%2=1:=by
   rw [hd,lM (by omega)]; omega
  rw [aE (by omega),aB,aE (by omega),aB,uE,j7.2 e]
theorem zW {x:Nat} (h:(nb x).length <= 1048576):F8 [eN x]=some (Nat.beq (x%2) 1):=by
 simp only [F8,aBO];exact Ty (λ a=>Nat.beq (a%2) 1) h
abbrev aST:Cg:=aOz (Bool) F8 (λ t=>t) (Nat) yY (λ t=>nb t) (λ t=>(nb t).length)
theorem aJT:CfOk prog aST.c:=gk <| aA Mp <| aA DU <| aK
theorem eN0:AV.s (SV.dat (TRow.ints i64 []) 0 1)=eN 0:=rfl
theorem G7:CallOk prog 50 Vh:=by
 refine i4 aJT Tryz.func50 ?_;intro args t ht;unfold Vh mF at ht;simp only at ht;split at ht
 ·rename_i a n;obtain ⟨h1,h2⟩:=cC ht;rw [aX] at h1;obtain ⟨x,rfl,rfl,hx,ex⟩:=oY h1.1;have h3:=y6 h1.2;rw [ex] at h3 h2;subst h2;refine (aSL ..).trans ?_;have ho:=zW hx;have hs:=nI (x:=0) (y:=x) (by decide) h3;rw [<-eN0] at hs;simp only [eN] at ho hs;rw [ho,aC];show _=some (eN (oW x));rw [oW];cases Nat.beq (x%2) 1
  ·rfl
  ·rw [aB,hs]; rfl
 ·cases ht
theorem zX {x:Nat} (h:x < aJ):DK [eN x]=some (oW x):=by
 have l:=rL h;simp only [DK,Vh,mF,eN];rw [nP (by omega),fY,y7 h]; rfl
set_option maxRecDepth 4000
abbrev aSU:Cg:=aOA (PUnit) aFz
theorem aJU:CfOk prog aSU.c:=gk <| aA Ug <| aK
theorem TQ:CallOk prog 219 jQ:=by
 refine i4 aJU Tryz.func219 ?_;intro args t ht;unfold jQ at ht;simp only at ht;split at ht
 ·exact (aSM ..).trans rfl
 ·cases ht
theorem aJV:∀ {a:List Int},(∀ y ∈ a,(Lit.int .u8 y).wf=true)->jE a=true:=by
 intro a
 induction a with
 | nil=>intro _; rfl
 | cons x r ih=>
  intro h;have h1:=h x (by simp);simp only [Lit.wf,aX,bG] at h1;have m1:u8.min=0:=rfl;have m2:u8.max=255:=rfl;rw [m1,m2] at h1;simp only [jE,aX,bG];exact ⟨by omega,ih λ y hy=>h y (by simp [hy])⟩
theorem Vs {a:List Int} (la:a.length=32) (wa:∀ y ∈ a,(Lit.int .u8 y).wf=true):fR a=true:=by
 rw [fR,la,aJV wa]; rfl
end
end Go.Eng
