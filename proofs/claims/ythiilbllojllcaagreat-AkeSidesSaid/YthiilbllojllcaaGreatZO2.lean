import Derived.Test.YthiilbllojllcaaGreatZO1
namespace Go.Eng
open Go.IntKind (u64 i64 u8)
noncomputable section
open Go Go.Proofs
set_option linter.all false
section
variable (T0:Type) (R0:FA T0)
def aMB:Cg:=⟨⟨cV [(107,⟨R0,λ t=>AV.bool (true)⟩)],[],cX⟩,[]⟩
theorem aTL (fu:Nat):aS prog Tryz.f63 (aMB T0 R0) fu []=(R0 []).bind λ t=>some (AV.bool true):=by kernel_rfl
end
section
variable (T0:Type) (R0:FA T0) (T1:Type) (R1:FA T1) (T2:Type) (R2:FA T2) (T3:Type) (R3:FA T3) (bS:T3->List Int) (T4:Type) (R4:FA T4) (dG:T4->List Int) (jU:T4->Int) (T5:Type) (R5:FA T5) (fE:T5->List Int) (T6:Type) (R6:FA T6) (mF:T6->List Int) (nP:T6->Int) (T7:Type) (R7:FA T7) (wU:T7->Str) (BI:T7->Int) (T8:Type) (R8:FA T8) (tE:T8->Str) (vE:T8->Int)
def aX3:Cg:=⟨⟨cV [(61,⟨R0,λ t=>AV.bool (true)⟩),(62,⟨R1,λ t=>AV.bool (true)⟩),(63,⟨R2,λ t=>AV.bool (true)⟩),(65,⟨R3,λ t=>AV.agg (.ints .u64 (bS t)) 8⟩),(64,⟨R4,λ t=>AV.tup [.s (.pl (.agg (.ints .u64 (dG t)) 20)),.s (.pl (.int .i64 (jU t)))]⟩),(14,⟨R5,λ t=>AV.agg (.ints .u8 (fE t)) 32⟩),(53,⟨R6,λ t=>AV.tup [.s (.pl (.agg (.ints .u8 (mF t)) 32)),.s (.pl (.int .i64 (nP t)))]⟩),(66,⟨R7,λ t=>AV.tup [.s (.pl (.str (wU t))),.s (.pl (.int .i64 (BI t)))]⟩),(67,⟨R8,λ t=>AV.tup [.s (.pl (.str (tE t))),.s (.pl (.int .i64 (vE t)))]⟩)],[],cX⟩,[]⟩
theorem bET (fu:Nat):aS prog Tryz.f24 (aX3 T0 R0 T1 R1 T2 R2 T3 R3 bS T4 R4 dG jU T5 R5 fE T6 R6 mF nP T7 R7 wU BI T8 R8 tE vE) fu []=(R0 []).bind λ t=>(R1 []).bind λ t=>(R2 []).bind λ t=>(R3 [.int .u64 0]).bind λ t=>(R4 [.str [(97:UInt8)],.agg (.ints .u64 (bS t)) 8]).bind λ t=>(R3 [.int .u64 3]).bind λ bY=>(R4 [.str [(97:UInt8)],.agg (.ints .u64 (bS bY)) 8]).bind λ cJ=>(R3 [.int .u64 5]).bind λ fF=>(R5 [.agg (.ints .u64 (dG cJ)) 20]).bind λ gA=>(R6 [.agg (.ints .u64 (bS fF)) 8,.agg (.ints .u8 (fE gA)) 32]).bind λ gC=>(R3 [.int .u64 3]).bind λ jJ=>(R7 [.str [(97:UInt8)],.agg (.ints .u64 (bS jJ)) 8,.agg (.ints .u8 (mF gC)) 32]).bind λ nR=>(R3 [.int .u64 5]).bind λ nQ=>(R8 [.agg (.ints .u64 (bS nQ)) 8,.str [(97:UInt8)]]).bind λ qZ=>bif decide (jU t=9) && decide (jU cJ=0) && decide (nP gC=0) && decide (BI nR=0) && decide (vE qZ=0) && decide (wU nR=tE qZ) then some (AV.bool (decide ((↑(List.length (wU nR)):Int)=64))) else some (AV.bool false):=by kernel_rfl
end
set_option maxRecDepth 4000
theorem aCU (s:Str) (k:Nat) (b:List Int):aEt s k b=cond (decide (uM s k=0)) (cond (decide ((kJ b).2=0)) (EN s (eY (kJ b).1 (cU (val (cM 8 (uN k 253 1))) 253)),0) ([],(kJ b).2)) ([],uM s k):=rfl
abbrev bEU:Cg:=aXe (Int) bB5 (λ t=>t) (Pt × Int) Xv (λ t=>[↑t.fst.x.a,↑t.fst.x.b,↑t.fst.x.c,↑t.fst.x.d,↑t.fst.x.e,↑t.fst.y.a,↑t.fst.y.b,↑t.fst.y.c,↑t.fst.y.d,↑t.fst.y.e,↑t.fst.z.a,↑t.fst.z.b,↑t.fst.z.c,↑t.fst.z.d,↑t.fst.z.e,↑t.fst.t.a,↑t.fst.t.b,↑t.fst.t.c,↑t.fst.t.d,↑t.fst.t.e]) (λ t=>t.snd) (Nat) K7 (λ t=>cM 8 t) (Pt) EX (λ t=>[↑t.x.a,↑t.x.b,↑t.x.c,↑t.x.d,↑t.x.e,↑t.y.a,↑t.y.b,↑t.y.c,↑t.y.d,↑t.y.e,↑t.z.a,↑t.z.b,↑t.z.c,↑t.z.d,↑t.z.e,↑t.t.a,↑t.t.b,↑t.t.c,↑t.t.d,↑t.t.e]) (List UInt8) bB7 (λ t=>t)
theorem aTM:CfOk prog bEU.c:=gk <| aA aJg <| aA UP <| aA Ue <| aA HQ <| aA aJj <| aH
theorem bEV:CallOk prog 66 bB8:=by
 refine fO aTM Tryz.func66 ?_;intro args t ht;unfold bB8 at ht;simp only at ht;split at ht
 ·rename_i s a b;obtain ⟨h1,h2⟩:=bO ht;subst h2;rw [aW,aW,aW,dJ] at h1;obtain ⟨⟨ha,hL,hb⟩,hs⟩:=h1;have hL:=cY.mp hL;refine (bCi ..).trans ?_;show _=some (eSE (aEt s (val a) b));have y:=aBa ha hs;have r:=OH hb;have hr:=UO b;have iv:K7 [W8 a]=some (uN (val a) 253 1):=aJH (λ a=>uN (val a) 253 1) zA ha (by have:=Bi hL; rwa [oA ha] at this);rw [aCU];generalize kJ b=R at *;obtain ⟨p,e⟩:=R;dsimp only at *;generalize uN (val a) 253 1=u at *;have t:=ZK hr u;have T0:=vL hr (cU (val (cM 8 u)) 253);generalize eY p (cU (val (cM 8 u)) 253)=T at *;refine aI y ?_;by_cases h:uM s (val a)=0
  ·have n:=aBf (aJh h).1 T0;rw [h,aD rfl,iD,aE,aB];refine aI r ?_;by_cases h2:e=0
   ·subst h2;rw [aD rfl,iD,aE,aB];refine aI iv ?_;refine aI t ?_;refine aI n ?_;rfl
   ·rw [aJ h2,jB,aB,aE]; rfl
  ·rw [aJ h,jB,aB,aE]; rfl
 ·cases ht
theorem aTN {s:Str} {a b:List Int} (ha:gK a=true) (hL:val a < LN) (hb:dP b=true) (hs:s.length <= 1099511620000):bHc [.str s,W8 a,pG b]=some (aEt s (val a) b):=by
 show cond (gK a && (Nat.blt (val a) LN && dP b) && Nat.ble s.length 1099511620000) (some (aEt s (val a) b)) none=_;rw [ha,hb,cY.mpr hL,lR hs]; rfl
theorem PD (k:Nat) (s:Str):Hb k s=cond (decide ((wA s k).2=0)) (EN s (wA s k).1,0) ([],(wA s k).2):=rfl
theorem aTO (s:Str) (k:Nat):nG (wA s k).1:=by
 unfold wA;cases decide (uM s k=0)
 ·exact sF
 ·have h:=vL (X0 s) (cU k 253);generalize eY (wY s) (cU k 253)=T at *;cases pL T dM
  ·exact h
  ·exact sF
theorem aMC {s:Str} {k:Nat} (h:(wA s k).2=0):s.length <= 65535:=by
 by_cases h1:uM s k=0
 ·exact (aJh h1).1
 ·rw [aBb h1] at h; exact absurd h h1
abbrev bEW:Cg:=aXf (Pt × Int) aA5 (λ t=>[↑t.fst.x.a,↑t.fst.x.b,↑t.fst.x.c,↑t.fst.x.d,↑t.fst.x.e,↑t.fst.y.a,↑t.fst.y.b,↑t.fst.y.c,↑t.fst.y.d,↑t.fst.y.e,↑t.fst.z.a,↑t.fst.z.b,↑t.fst.z.c,↑t.fst.z.d,↑t.fst.z.e,↑t.fst.t.a,↑t.fst.t.b,↑t.fst.t.c,↑t.fst.t.d,↑t.fst.t.e]) (λ t=>t.snd) (List UInt8) bB7 (λ t=>t)
theorem aTP:CfOk prog bEW.c:=gk <| aA aBc <| aA aJj <| aH
theorem bEX:CallOk prog 67 bB9:=by
 refine fO aTP Tryz.func67 ?_;intro args t ht;unfold bB9 at ht;simp only at ht;split at ht
 ·rename_i a s;obtain ⟨h1,h2⟩:=bO ht;subst h2;rw [aW,dJ] at h1;obtain ⟨ha,hs⟩:=h1;refine (bCj ..).trans ?_;show _=some (eSE (Hb (val a) s));have y:=Fc ha hs;have k0:=aTO s (val a);have kl:=aMC (s:=s) (k:=val a);rw [PD];generalize wA s (val a)=R at *;obtain ⟨p,e⟩:=R;dsimp only at *;refine aI y ?_;by_cases h:e=0
  ·subst h;have n:=aBf (kl rfl) k0;rw [aD rfl,iD,aE,aB];refine aI n ?_;rfl
  ·rw [aJ h,jB,aB,aE]; rfl
 ·cases ht
theorem aTQ {s:Str} {a:List Int} (ha:gK a=true) (hs:s.length <= 1099511620000):bHd [W8 a,.str s]=some (Hb (val a) s):=by
 show cond (gK a && Nat.ble s.length 1099511620000) (some (Hb (val a) s)) none=_;rw [ha,lR hs]; rfl
abbrev aTR:Cg:=aMB (PUnit) gM
theorem aMD:CfOk prog aTR.c:=gk <| aA ZP <| aH
theorem ZM:CallOk prog 63 gE:=by
 refine fO aMD Tryz.func63 ?_;intro args t ht;unfold gE at ht;simp only at ht;split at ht
 ·exact aTL ..
 ·cases ht
theorem bEY (s:Str):∃ g,PT (wY s) g /\ Ev g:=by
 have hl:(BC (NV++Ha) 64 s).length=64:=Mp _ _ _;have e:wY s=(FT (BC (NV++Ha) 64 s)).1:=rfl;rw [e];generalize BC (NV++Ha) 64 s=X at *;refine ⟨CP.add (gH (ph (sT ((X.take 32).map sE)))) (gH (ph (sT ((X.drop 32).map sE)))),?_,yJ (aAF _) (aAF _)⟩;unfold FT;rw [hl];exact aL4 (Z5 (JQ _)) (Z5 (JQ _))
theorem aFN:pL (wY [97]) dM=false:=by decide +kernel
theorem bEZ:wA [97] 0=(dM,9):=rfl
theorem PE {k:Nat} {s:Str} (hs:s.length <= 65535) {g:CP.G} (hp:PT (wY s) g) (hg:Ev g) (h4:¬ e4 g) (h0:0 < k) (hk:k < LN):wA s k=(eY (wY s) (cU k 253),0) /\ PT (eY (wY s) (cU k 253)) (CP.nsm k g) /\ Ev (CP.nsm k g) /\ ¬ e4 (CP.nsm k g):=by
 have T:=Xz hp hk;have n4:¬ e4 (CP.nsm k g):=λ z=>h4 (aAD hg h0 hk z);have m:uM s k=0:=by
  have b:Nat.beq k 0=false:=by
   cases hb:Nat.beq k 0
   ·rfl
   ·exact absurd (aT hb) (by omega)
  unfold uM;rw [lR hs,b]; rfl
 have n:pL (eY (wY s) (cU k 253)) dM=false:=by
  rw [M6];intro z;exact n4 ((Ff T).1 z)
 refine ⟨?_,T,P5 hg k,n4⟩;rw [UQ m,n]; rfl
theorem bE0 {s:Str} {p q:Pt} (h:Xy p=Xy q):EN s p=EN s q:=by
 unfold EN;have h:lo 32 (fv (cW p)%aK)=lo 32 (fv (cW q)%aK):=h;rw [h]
theorem aME (s:Str) (p:Pt):(EN s p).length=64:=pY _
theorem bJV:∃ (P3:Pt) (b:List Int) (S:Str),wA [97] 3=(P3,0) /\ nG P3 /\ gO 5 (Xy P3)=(b,0) /\ dP b=true /\ aEt [97] 3 b=(S,0) /\ Hb 5 [97]=(S,0) /\ S.length=64:=by
 obtain ⟨g,G,hg⟩:=bEY [97];have h4:¬ e4 g:=λ z=>by
  have:=(Ff G).2 z;rw [aFN] at this;cases this
 have L3:3 < LN:=by decide
 have L5:5 < LN:=by decide
 obtain ⟨t3,T3,E3,n3⟩:=PE (s:=[97]) (by decide) G hg h4 (k:=3) (by decide) L3;obtain ⟨t5,T5,E5,n5⟩:=PE (s:=[97]) (by decide) G hg h4 (k:=5) (by decide) L5;obtain ⟨r,h,ev,R,s1,Er,nr⟩:=aEy T3 E3 n3 (k:=5) (by decide) L5;obtain ⟨q,h',_,rd,Q,s2,Eq⟩:=Hc R Er nr;have uL:uN 3 253 1 < LN:=aRf 253 1 (by decide);have iv:uN 3 253 1*3%LN=1:=bCV (by decide) L3;have D:=bCU Q uL;refine ⟨_,_,EN [97] (eY (wY [97]) (cU 5 253)),t3,T3.ok,ev,aJd _,?_,?_,aME _ _⟩
 ·rw [aCU,rd];show (EN [97] (eY q (cU (val (cM 8 (uN 3 253 1))) 253)),(0:Int))=_;refine qN ?_ rfl;refine bE0 (bCo D T5 (P5 Eq _) ?_);generalize uN 3 253 1=u at *;have a1:Ds (CP.nsm 5 (CP.nsm 3 g)) h':=rE s1 s2;have a2:=BS (QR a1 u);have a3:CP.nsm u (CP.nsm 5 (CP.nsm 3 g))=CP.nsm 5 (CP.nsm (u*3) g):=by rw [CP.nsm_comm u 5,CP.nsm_mul]
  have a4:=aAC hg (u*3);rw [iv,CP.nsm_one] at a4;rw [a3] at a2;exact rE a2 (QR a4 5)
 ·rw [PD,t5]; rfl
abbrev bE1:Cg:=aX3 (PUnit) gM (PUnit) gM (PUnit) gM (Nat) OI (λ t=>cM 8 t) (Pt × Int) aA5 (λ t=>[↑t.fst.x.a,↑t.fst.x.b,↑t.fst.x.c,↑t.fst.x.d,↑t.fst.x.e,↑t.fst.y.a,↑t.fst.y.b,↑t.fst.y.c,↑t.fst.y.d,↑t.fst.y.e,↑t.fst.z.a,↑t.fst.z.b,↑t.fst.z.c,↑t.fst.z.d,↑t.fst.z.e,↑t.fst.t.a,↑t.fst.t.b,↑t.fst.t.c,↑t.fst.t.d,↑t.fst.t.e]) (λ t=>t.snd) (List Int) xF (λ t=>t) (List Int × Int) aI7 (λ t=>t.fst) (λ t=>t.snd) (Str × Int) bHc (λ t=>t.fst) (λ t=>t.snd) (Str × Int) bHd (λ t=>t.fst) (λ t=>t.snd)
theorem aTS:CfOk prog bE1.c:=gk <| aA ZX <| aA LH <| aA ZM <| aA QU <| aA aJi <| aA y6 <| aA aBd <| aA bEV <| aA bEX <| aH
theorem ZN:CallOk prog 24 gE:=by
 refine fO aTS Tryz.func24 ?_;intro args t ht;unfold gE at ht;simp only at ht;split at ht
 case h_2=>cases ht
 obtain ⟨P3,b,S,t3,k3,ev,hb,fi,wh,hl⟩:=bJV;have v:∀ n,n < LN->val (cM 8 n)=n:=λ n hn=>zB (cZ hn wB);have L0:0 < LN:=by decide
 have L3:3 < LN:=by decide
 have L5:5 < LN:=by decide
 have s0:=zC (n:=0) (by decide);have s3:=zC (n:=3) (by decide);have s5:=zC (n:=5) (by decide);have b0:=Fc (s:=[97]) (cL 0) (by decide);have b3:=Fc (s:=[97]) (cL 3) (by decide);have by3:=rD k3;have e5:=UR (cL 5) (aJd P3);have f3:=aTN (s:=[97]) (cL 3) (by rw [v 3 L3]; exact L3) hb (by decide);have w5:=aTQ (s:=[97]) (cL 5) (by decide);rw [v 0 L0,bEZ] at b0;rw [v 3 L3,t3] at b3;rw [v 5 L5,ev] at e5;rw [v 3 L3,fi] at f3;rw [v 5 L5,wh] at w5;have by3:xF [eP P3]=some (Xy P3):=by3;generalize Xy P3=B at *;generalize dM=Np at *;refine (bET ..).trans ?_;refine aI (show gM []=some () from rfl) ?_;refine aI (show gM []=some () from rfl) ?_;refine aI (show gM []=some () from rfl) ?_;refine aI s0 ?_;refine aI b0 ?_;refine aI s3 ?_;refine aI b3 ?_;refine aI s5 ?_;refine aI by3 ?_;refine aI e5 ?_;refine aI s3 ?_;refine aI f3 ?_;refine aI s5 ?_;refine aI w5 ?_;refine nC ?_ ?_
 ·show (decide ((9:Int)=9) && decide ((0:Int)=0) && decide ((0:Int)=0) && decide ((0:Int)=0) && decide ((0:Int)=0) && decide (S=S))=true;rw [aD (rfl:S=S)]; rfl
 ·show some (AV.bool (decide (((S.length:Nat):Int)=64)))=_;rw [aD (by omega)]; rfl
theorem aTT (R:List Int) (N i:Nat) (hN:R.length=N) (hi:i < N):(R.take i++List.replicate (N - i) 0).set i (R.getD i 0)=R.take (i+1)++List.replicate (N - (i+1)) 0:=by
 have e:R.take (i+1)=R.take i++[R.getD i 0]:=by
  rw [x9,jZ (by omega),jM,jZ (by omega)]; rfl
 have hl:(R.take i).length=i:=by rw [dH]; omega
 rw [e,Aq _ _ (by rw [hl]; omega),hl,iL,show N - i=N - (i+1)+1 by omega,x8,u5,iO]; rfl
abbrev aMF:Cg:=UM (Nat) aDd (λ t=>cM 8 t)
theorem aTU:CfOk prog aMF.c:=gk <| aA aF3 <| aH
theorem aFO {a:List Int} (ha:a.length=32) (z:List Int) (m fu:Nat) (K:Ex->St->Option AV):∀ (d n i:Nat),i+d=32->d < n ->
  eV prog aMF fu Xx K n (some (QQ 32 32 (i:Int) a z m (a.take i++List.replicate (32 - i) 0)))=Db K (.exit 0) (some (K4 32 z m a)):=by
 intro d
 induction d with
 | zero=>
  intro n i hi hn;obtain ⟨n,rfl⟩:=aP (by omega:n ≠ 0);have e:i=32:=by omega
  rw [aF,aI9,aJ (by omega),aE,e,iL,sJ,jC,d9 (by omega)]
 | succ d ih=>
  intro n i hi hn;obtain ⟨n,rfl⟩:=aP (by omega:n ≠ 0);have h:=ih n (i+1) (by omega) (by omega);have w1:i64.wrap ((i:Int)+1)=((i+1:Nat):Int):=bW (by omega) (by omega);rw [aF,aI9,aD (by omega),aB,aD (by omega),aB,aD (by omega),aB,w1,bD,bT,aTT a 32 i ha (by omega)];exact h
theorem aFP:CallOk prog 5 aA6:=by
 refine aZ (fu:=λ _=>40) aTU Tryz.func5 ?_;intro args t ht;obtain ⟨a,rfl,ha,rfl⟩:=sX (F:=λ a=>vB a%LN) ht;obtain ⟨la,ba⟩:=fW ha;refine (bCl ..).trans ?_;refine (aFO la [0,0,0,0,0,0,0,0] 32 40 _ 32 40 0 rfl (by decide)).trans ?_;rw [aR];refine (aJa ..).trans ?_;have w:=Zd (s:=a.map b8) (by rw [eZ]; omega);rw [aDK ba] at w;refine aI w ?_;rfl
theorem Mh {a:List Int} (h:dP a=true):aA7 [pG a]=some (vB a%LN):=B2 (λ a=>vB a%LN) h
end
end Go.Eng
