import Derived.Test.YthiilbllojllcaaGreatZF4
import Derived.Test.YthiilbllojllcaaGreatZF6
import Derived.Test.YthiilbllojllcaaGreatZF7
import Derived.Test.YthiilbllojllcaaGreatZF9
namespace Go.Eng
open Go.IntKind (u64 i64 u8)
noncomputable section
open Go Go.Proofs
set_option linter.all false
section
variable (T0:Type) (R0:FA T0) (aG:T0->List Int) (aO:T0->Nat) (T1:Type) (R1:FA T1) (aM:T1->List Int) (bK:T1->Nat) (T2:Type) (R2:FA T2) (bE:T2->List Int) (bU:T2->Nat) (fD:T2->List Int) (fJ:T2->Nat) (T3:Type) (R3:FA T3) (bS:T3->List Int) (eX:T3->Nat) (T4:Type) (R4:FA T4) (dG:T4->List Int) (jU:T4->Nat) (T5:Type) (R5:FA T5) (fE:T5->Int) (T6:Type) (R6:FA T6) (mF:T6->List Int) (nP:T6->Nat) (T7:Type) (R7:FA T7) (wU:T7->List Int) (BI:T7->Nat)
def aXV:Cg:=⟨⟨cV [(95,⟨R0,λ t=>AV.s (dI (aG t) (aO t))⟩),(46,⟨R1,λ t=>AV.s (dI (aM t) (bK t))⟩),(17,⟨R2,λ t=>AV.tup [.s (dI (bE t) (bU t)),.s (dI (fD t) (fJ t))]⟩),(135,⟨R3,λ t=>AV.s (dI (bS t) (eX t))⟩),(91,⟨R4,λ t=>AV.s (dI (dG t) (jU t))⟩),(48,⟨R5,λ t=>AV.int .i64 (fE t)⟩),(100,⟨R6,λ t=>AV.s (dI (mF t) (nP t))⟩),(137,⟨R7,λ t=>AV.s (dI (wU t) (BI t))⟩)],[],cX⟩,[]⟩
theorem bEE (fu:Nat) (x:Nat):aS prog Tryz.f136 (aXV T0 R0 aG aO T1 R1 aM bK T2 R2 bE bU fD fJ T3 R3 bS eX T4 R4 dG jU T5 R5 fE T6 R6 mF nP T7 R7 wU BI) fu [eN x]=(R0 []).bind λ t=>(R1 [.s (dI (aG t) (aO t)),.s (dI [3] 1)]).bind λ t=>(R2 [.s (dI (aM t) (bK t)),.s (dI [8] 1)]).bind λ t=>(R3 [.s (dI (nb x) (nb x).length),.s (dI (bE t) (bU t))]).bind λ t=>(R4 [.s (dI (bS t) (eX t)),.s (dI (bS t) (eX t))]).bind λ bY=>(R5 [.s (dI (dG bY) (jU bY)),.s (dI (nb x) (nb x).length)]).bind λ cJ=>bif decide (fE cJ=0) then (R6 [.s (dI (bS t) (eX t))]).bind λ t=>some (AV.tup [.s (dI (mF t) (nP t)),.s (.pl (.bool true))]) else (R7 []).bind λ fF=>(R4 [.s (dI (bS t) (eX t)),.s (dI (wU fF) (BI fF))]).bind λ t=>(R6 [.s (dI (dG t) (jU t))]).bind λ gA=>(R4 [.s (dI (dG t) (jU t)),.s (dI (dG t) (jU t))]).bind λ t=>(R5 [.s (dI (dG t) (jU t)),.s (dI (nb x) (nb x).length)]).bind λ t=>some (AV.tup [.s (dI (mF gA) (nP gA)),.s (.pl (.bool (decide (fE t=0))))]):=by kernel_rfl
end
section
variable (T0:Type) (R0:FA T0) (aG:T0->List Int) (aO:T0->Nat) (T1:Type) (R1:FA T1) (aM:T1->List Int) (bK:T1->Nat) (T2:Type) (R2:FA T2) (bE:T2->List Int) (bU:T2->Nat) (fD:T2->Bool) (T3:Type) (R3:FA T3) (bS:T3->List Int) (eX:T3->Nat)
def aXW:Cg:=⟨⟨cV [(94,⟨R0,λ t=>AV.s (dI (aG t) (aO t))⟩),(91,⟨R1,λ t=>AV.s (dI (aM t) (bK t))⟩),(136,⟨R2,λ t=>AV.tup [.s (dI (bE t) (bU t)),.s (.pl (.bool (fD t)))]⟩),(137,⟨R3,λ t=>AV.s (dI (bS t) (eX t))⟩)],[],cX⟩,[]⟩
theorem bEF (fu:Nat) (x y:Nat):aS prog Tryz.f99 (aXW T0 R0 aG aO T1 R1 aM bK T2 R2 bE bU fD T3 R3 bS eX) fu [eN x,eN y]=bif decide ((↑(nb x).length:Int)=0) then some (AV.tup [.s (dI [] 0),.s (.pl (.bool true))]) else bif decide ((↑(nb y).length:Int)=0) then some (AV.tup [.s (dI [] 0),.s (.pl (.bool false))]) else (R0 [.s (dI (nb y) (nb y).length)]).bind λ t=>(R1 [.s (dI (nb x) (nb x).length),.s (dI (aG t) (aO t))]).bind λ t=>(R2 [.s (dI (aM t) (bK t))]).bind λ bY=>bif fD bY then some (AV.tup [.s (dI (bE bY) (bU bY)),.s (.pl (.bool true))]) else (R3 []).bind λ cJ=>(R1 [.s (dI (bS cJ) (eX cJ)),.s (dI (aM t) (bK t))]).bind λ t=>(R2 [.s (dI (aM t) (bK t))]).bind λ t=>some (AV.tup [.s (dI (bE t) (bU t)),.s (.pl (.bool false))]):=by kernel_rfl
end
set_option maxRecDepth 4000
theorem eN3:AV.s (SV.dat (TRow.ints i64 [(3:Int)]) 1 1)=eN 3:=rfl
theorem eN8:AV.s (SV.dat (TRow.ints i64 [(8:Int)]) 1 1)=eN 8:=rfl
theorem V0 (x y:Nat):(tV x y=0) ↔ x=y:=by
 unfold tV;rcases KL x y with h | h | h
 ·rw [aD h]; simp; omega
 ·subst h; simp
 ·rw [aJ (by omega),aD h]; simp; omega
theorem aCB:iN < aK:=by decide
theorem SE:rRI []=some iN:=rfl
abbrev bEG:Cg:=aXV (Nat) rRP (λ t=>nb t) (λ t=>(nb t).length) (Nat) kY (λ t=>nb t) (λ t=>(nb t).length) (Nat × Nat) JW (λ t=>nb t.fst) (λ t=>(nb t.fst).length) (λ t=>nb t.snd) (λ t=>(nb t.snd).length) (Nat) TY (λ t=>nb t) (λ t=>(nb t).length) (Nat) qV (λ t=>nb t) (λ t=>(nb t).length) (Int) pN (λ t=>t) (Nat) FM (λ t=>nb t) (λ t=>(nb t).length) (Nat) rRI (λ t=>nb t) (λ t=>(nb t).length)
theorem aTd:CfOk prog bEG.c:=gk <| aA OX <| aA vP <| aA H8 <| aA QJ <| aA xN <| aA DJ <| aA Jc <| aA aIY <| aH
theorem aLV:CallOk prog 136 Ps:=by
 refine fO aTd Tryz.func136 ?_;intro args t ht;unfold Ps oO at ht;simp only at ht;split at ht
 ·rename_i l n;obtain ⟨h1,h2⟩:=bO ht;rw [aW] at h1;obtain ⟨a,rfl,rfl,hx,ex⟩:=qE h1.1;have ha:=A5 h1.2;rw [ex] at ha h2;subst h2;refine (bEE ..).trans ?_;show _=some (eNB (Az a));unfold Az;have la:=uF ha;have h3:=jY (x:=aK) (y:=3) (by rw [Yc]; omega) (by decide);have hd:=Eo (x:=aK+3) (y:=8) (dC (dL (k:=32) (by decide +kernel)) (by decide)) (by decide) (by decide);generalize hq:(aK+3) / 8=q at *;have hl:(nb q).length <= 1048576:=dC (dL (k:=32) (by rw [<-hq]; decide +kernel)) (by decide);have hp:=Kx (a:=a) (y:=q) ha hl;have hz:=fG (a ^ q);generalize a ^ q%aK=z at *;generalize aK+3=w at *;have m1:=bQ hz hz;have l1:=uF (fG (z*z));have c1:=oY (x:=z*z%aK) (y:=a) (by omega) (by omega);have a1:=B5 hz;have m2:=bQ hz aCB;have hz2:=fG (z*iN);generalize z*iN%aK=z2 at *;have a2:=B5 hz2;have m3:=bQ hz2 hz2;have l3:=uF (fG (z2*z2));have c3:=oY (x:=z2*z2%aK) (y:=a) (by omega) (by omega);rw [<-eN3] at h3;rw [<-eN8] at hd;simp only [eN] at h3 hd hp m1 c1 a1 m2 a2 m3 c3;rw [Hp,aC,h3,aC,hd,aC,hp,aC,m1,aC,c1,aC,mA.2 (V0 (z*z%aK) a)];by_cases g:z*z%aK=a
  ·rw [aD g,aB,a1,aX g]; rfl
  ·rw [aJ g,aE,SE,aC,m2,aC,a2,aC,m3,aC,c3,aC,mA.2 (V0 (z2*z2%aK) a),aV g];rfl
 ·cases ht
theorem O4 {a:Nat} (h:a < aK):Ka [eN a]=some (Az a):=by
 have l:=uF h;simp only [Ka,Ps,oO,eN];rw [oX (by omega),gN,A6 h]; rfl
def Dd (a:Nat):Nat:=a ^ (aK - 2)%aK
theorem aLW (x:Nat) (b:Bool):some (AV.tup [CV.s (SV.dat (TRow.ints i64 (nb x)) (nb x).length 1),CV.s (SV.pl (Pl.bool b))])=some (eNB (x,b)):=rfl
def aLX (R1 R2:Nat × Bool):Nat × Bool:=cond R1.2 (R1.1,true) (R2.1,false)
def aTe (u v w:Nat):Nat × Bool :=
 if u=0 then (0,true) else if v=0 then (0,false) else aLX (Az (u*w%aK)) (Az (iN*(u*w%aK)%aK))
theorem aLY {w k:Nat} {R1 R2:Nat × Bool} (m2:qV [eN iN,eN w]=some k) (r2:Ka [eN k]=some R2) :
  (bif R1.2 then some (AV.tup [CV.s (SV.dat (TRow.ints i64 (nb R1.1)) (nb R1.1).length (1:Nat)),CV.s (SV.pl (Pl.bool true))])
      else
       (rRI []).bind λ (cJ:Nat)=>
        (qV [AV.s (SV.dat (TRow.ints i64 (nb cJ)) (nb cJ).length (1:Nat)),AV.s (SV.dat (TRow.ints i64 (nb w)) (nb w).length (1:Nat))]).bind λ (t:Nat)=>
         (Ka [AV.s (SV.dat (TRow.ints i64 (nb t)) (nb t).length (1:Nat))]).bind λ (t:Nat × Bool)=>
          some (AV.tup [CV.s (SV.dat (TRow.ints i64 (nb t.1)) (nb t.1).length (1:Nat)),CV.s (SV.pl (Pl.bool false))]))=some (eNB (aLX R1 R2)):=by
 obtain ⟨a,b⟩:=R1;simp only [eN] at m2 r2;cases b
 ·rw [aE,SE,aC,m2,aC,r2,aC];exact aLW R2.1 false
 ·exact aLW a true
theorem aTf (R1 R2:Nat × Bool):(if R1.2=true then (R1.1,true) else (R2.1,false))=aLX R1 R2:=by
 obtain ⟨a,b⟩:=R1;cases b
 ·exact aV (λ e=>Bool.noConfusion e)
 ·exact aX rfl
theorem aCC (u v:Nat):DZ u v=aTe u v (Dd v):=by
 unfold DZ aTe;rw [aTf];rfl
theorem aTg (v:Nat):Dd v < aK:=fG _
theorem O5 {v:Nat} (hv:v < aK):N3 [eN v]=some (Dd v):=UC hv
abbrev bEH:Cg:=aXW (Nat) N3 (λ t=>nb t) (λ t=>(nb t).length) (Nat) qV (λ t=>nb t) (λ t=>(nb t).length) (Nat × Bool) Ka (λ t=>nb t.fst) (λ t=>(nb t.fst).length) (λ t=>t.2) (Nat) rRI (λ t=>nb t) (λ t=>(nb t).length)
theorem aTh:CfOk prog bEH.c:=gk <| aA QK <| aA xN <| aA aLV <| aA aIY <| aH
theorem aCD:CallOk prog 99 aHs:=by
 refine fO aTh Tryz.func99 ?_;intro args t ht;obtain ⟨u,v,rfl,hx,hy,hc,rfl⟩:=qF (F:=DZ) (C:=λ a b=>bP a && bP b) ht;rw [aW] at hc;have hu:=A5 hc.1;have hv:=A5 hc.2;refine (bEF ..).trans ?_;show _=some (eNB (DZ u v));rw [aCC];have i1:=O5 hv;have hi:=aTg v;generalize Dd v=z at *;clear ht;unfold aTe;by_cases c1:u=0
 ·have:=(vY u).2 c1;rw [aD (by omega),aB,aX c1]; rfl
 have n1:¬ (nb u).length=0:=λ h=>c1 ((vY u).1 h);by_cases c2:v=0
 ·have:=(vY v).2 c2;rw [aJ (by omega),aE,aD (by omega),aB,aV c1,aX c2]; rfl
 have n2:¬ (nb v).length=0:=λ h=>c2 ((vY v).1 h);have m1:=bQ hu hi;have hw:=fG (u*z);generalize u*z%aK=w at *;have r1:=O4 hw;have m2:=bQ aCB hw;have r2:=O4 (fG (iN*w));have d1:decide (((nb u).length:Int)=0)=false:=aJ (by omega);have d2:decide (((nb v).length:Int)=0)=false:=aJ (by omega);simp only [eN] at i1 m1 r1 m2 r2;generalize Az (iN*w%aK)=R2 at *;generalize Az w=R1 at *;rw [d1,aE,d2,aE,i1,aC,m1,aC,r1,aC,aV c1,aV c2];exact aLY m2 r2
theorem V1 {u v:Nat} (h:u < aK) (h2:v < aK):Kb [eN u,eN v]=some (DZ u v):=by
 have l1:=uF h;have l2:=uF h2;simp only [Kb,aHs];exact Al DZ (λ a b=>bP a && bP b) (by omega) (by omega) (by rw [A6 h,A6 h2]; rfl)
set_option maxRecDepth 4000
theorem bEI {k:Nat} (h:k < aK):q9 k=Tw k:=by
 rw [q9,Tw];cases hb:Nat.beq (k%2) 1
 ·have h0:¬ k%2=1:=λ h=>by rw [h] at hb; cases hb
  rw [aE,aV h0]
 ·have h1:=aT hb;rw [aB,aX h1];simp only [aK] at *;omega
theorem H0 {z:Fe} (hz:cS z) {k:Nat} (hk:k < aK) (h:cg (fv z:Int) (k:Int) ∨ cg (fv z:Int) (-(k:Int))):fv (wX z)%aK=q9 k:=by
 have e:fv (fe k)=k:=Dq (cZ hk (by decide));have:=aIo hz (cA k) P8 (by rw [e]; exact h);have h2:=JT (cA k) P8;rw [e,aY hk] at h2;rw [bEI hk,<-h2];have e2:fv (fe k)%aK=k:=by rw [e,aY hk]
 rw [e2] at this;exact this
theorem aXX:(fv iF:Int)=iZ:=by decide +kernel
theorem aTi:8*nU 253 252+4=aK - 1:=by decide +kernel
theorem bHD:8*nU 253 252+3=aK - 2:=by decide +kernel
theorem bHE:(aK+3) / 8=nU 253 252+1:=by decide +kernel
theorem bJR:nU 253 252+1=2*(2*1809251394333065553493296640760748560207343510400633813116524750123642650623+1):=by decide +kernel
theorem V2 {e:Nat} (h:e=aK - 2) (v:Nat):Dd v=v ^ e%aK:=by rw [h]; rfl
theorem aTj {e:Nat} (h:e=aK - 2) (v:Nat):cg (Dd v:Int) ((v:Int) ^ e):=by
 have:=oP.2 (show (v ^ e%aK)%aK=v ^ e%aK from mY _ _);rw [M9] at this;rwa [V2 h]
def V3 (a z:Nat):Nat × Bool:=if z*z%aK=a then (q9 z,true) else (q9 (z*iN%aK),decide (z*iN%aK*(z*iN%aK)%aK=a))
theorem aCE {q:Nat} (h:(aK+3) / 8=q) (a:Nat):Az a=V3 a (a ^ q%aK):=by rw [<-h]; rfl
theorem aCF (a q:Nat):cg ((a ^ q%aK:Nat):Int) ((a:Int) ^ q):=by
 have:=oP.2 (show (a ^ q%aK)%aK=a ^ q%aK from mY _ _);rwa [M9] at this
theorem Gc (a b:Nat):cg ((a*b%aK:Nat):Int) ((a:Int)*(b:Int)):=by
 have:=oP.2 (show (a*b%aK)%aK=a*b%aK from mY _ _);rwa [qG] at this
theorem bJS:((iN:Nat):Int)=iZ:=rfl
theorem V4 {a z:Nat} (ha:a < aK) {Z:Int} (hz:cg (z:Int) Z) :
  (cg (Z*Z) (a:Int)->V3 a z=(q9 z,true)) /\
  (¬ cg (Z*Z) (a:Int)->(cg (Z*Z) (-(a:Int))->V3 a z=(q9 (z*iN%aK),true)) /\ (¬ cg (Z*Z) (-(a:Int))->V3 a z=(q9 (z*iN%aK),false))):=by
 have h1:=aGR ha hz;have hz2:cg ((z*iN%aK:Nat):Int) (Z*iZ):=by
  have:=Gc z iN;rw [bJS] at this;exact this.trans (hz.mul (cg.refl _))
 have h2:=aGR ha hz2;unfold V3;generalize z*iN%aK=z2 at *;have e:cg (Z*iZ*(Z*iZ)) (a:Int) ↔ cg (Z*Z) (-(a:Int)):=by
  have hs:=aOJ Z;constructor
  ·intro h;have:=(hs.symm.trans h).neg;rwa [Ca] at this
  ·intro h;have:=hs.trans h.neg;rwa [Ca] at this
 refine ⟨λ h=>aX (h1.2 h),λ h=>⟨λ g=>?_,λ g=>?_⟩⟩
 ·rw [aV λ x=>h (h1.1 x),aD (h2.2 (e.2 g))]
 ·rw [aV λ x=>h (h1.1 x),aJ λ x=>g (e.1 (h2.1 x))]
theorem ZJ {c:Int} (h:c%57896044618658097711785492504343953926634992332820282019728792003956564819949 ≠ 0):¬ cg c 0:=by
 rintro ⟨k,hk⟩;omega
theorem aLZ (a:Nat) (R2:Nat × Bool):aLX (a,true) R2=(a,true):=rfl
theorem aL0 (a:Nat) (R2:Nat × Bool):aLX (a,false) R2=(R2.1,false):=rfl
theorem aXY:q9 0=0:=by decide
theorem aL1 {a b:Int} (h:cg a 0):cg (a*b) 0:=by
 have:=h.mul (cg.refl b);rwa [Ao] at this
theorem qC {A:Bool} {p:Prop} (h:A=true ↔ p):(p->A=true) /\ (¬ p->A=false):=by
 refine ⟨h.2,λ g=>?_⟩;cases A
 ·rfl
 ·exact absurd (h.1 rfl) g
theorem aL2 {x y:Fe} (hx:cS x) (hy:cS y) (lx:fv x < aK) (ly:fv y < aK) :
  fv (mC x y).1%aK=(DZ (fv x) (fv y)).1 /\ (mC x y).2=(DZ (fv x) (fv y)).2:=by
 have c3:cg (fv (aN (aN y y) y):Int) ((fv y:Int)*fv y*fv y):=(iU _ y).trans ((iU y y).mul (cg.refl _));have c7:cg (fv (aN x (aN (aN (aN (aN y y) y) (aN (aN y y) y)) y)):Int) ((fv x:Int)*((fv y:Int)*fv y*fv y*((fv y:Int)*fv y*fv y)*fv y)) :=
  (iU x _).trans ((cg.refl _).mul ((iU _ y).trans (((iU _ _).trans (c3.mul c3)).mul (cg.refl _))))
 have cr:cg (fv (dZ x y):Int) ((fv x:Int)*((fv y:Int)*fv y*fv y)*((fv x:Int)*((fv y:Int)*fv y*fv y*((fv y:Int)*fv y*fv y)*fv y)) ^ nU 253 252) :=
  (iU _ _).trans (((iU x _).trans ((cg.refl _).mul c3)).mul ((aAH _ 253 252).trans (c7.pow _)))
 have hR:cS (dZ x y):=S5 hx hy;rw [aCC];unfold mC;generalize dZ x y=R at *;clear c3 c7;have cc:cg (fv (aN y (aN R R)):Int) ((fv y:Int)*((fv R:Int)*fv R)):=(iU y _).trans ((cg.refl _).mul (iU R R));have cn:=bBo hx;have ci:cg (fv (aN (cQ f0 x) iF):Int) (-iZ*(fv x:Int)):=by
  have:=(iU (cQ f0 x) iF).trans (cn.mul (cg.refl _));rw [aXX,tZ,Int.mul_comm,<-tZ] at this;exact this
 have hA:jW (aN y (aN R R)) x=true ↔ cg ((fv y:Int)*((fv R:Int)*fv R)) (1*(fv x:Int)):=by
  rw [uA];exact FZ.trans ⟨λ h=>cc.symm.trans h,λ h=>cc.trans h⟩
 have hB:jW (aN y (aN R R)) (cQ f0 x)=true ↔ cg ((fv y:Int)*((fv R:Int)*fv R)) (-1*(fv x:Int)):=by
  rw [tZ,uA];exact FZ.trans ⟨λ h=>cc.symm.trans (h.trans cn),λ h=>cc.trans (h.trans cn.symm)⟩
 have hD:jW (aN y (aN R R)) (aN (cQ f0 x) iF)=true ↔ cg ((fv y:Int)*((fv R:Int)*fv R)) (-iZ*(fv x:Int)) :=
  FZ.trans ⟨λ h=>cc.symm.trans (h.trans ci),λ h=>cc.trans (h.trans ci.symm)⟩
 have cri:cg (fv (aN R iF):Int) ((fv R:Int)*iZ):=by
  have:=iU R iF;rwa [aXX] at this
 have hRi:cS (aN R iF):=aL hR xI;generalize jW (aN y (aN R R)) x=A at *;generalize jW (aN y (aN R R)) (cQ f0 x)=B at *;generalize jW (aN y (aN R R)) (aN (cQ f0 x) iF)=D at *;generalize aN R iF=Q at *;clear cc cn ci;have zero:cg (fv R:Int) 0->fv (wX (cond (B || D) Q R))%aK=0:=by
  intro h;have k0:((0:Nat):Int)=0:=rfl;cases (B || D)
  ·rw [aE,H0 hR (k:=0) (by decide) (.inl h),aXY]
  ·rw [aB,H0 hRi (k:=0) (by decide) (.inl (cri.trans (aL1 h))),aXY]
 unfold aTe;by_cases hu:fv x=0
 ·rw [aX hu];have hU:(fv x:Int)=0:=by omega
  rw [hU] at cr;have z0:cg (fv R:Int) 0:=by
   rw [Ao,Ao] at cr; exact cr
  have:A=true:=hA.2 (by
   rw [hU,S7];have:=aL1 (b:=(fv R:Int)) z0;have:=(cg.refl (fv y:Int)).mul this;rwa [S7] at this)
  rw [this,IA];exact ⟨zero z0,rfl⟩
 rw [aV hu];have hU:¬ cg (fv x:Int) 0:=λ h=>hu (by have:=rX.1 h; rwa [aY lx] at this);by_cases hv:fv y=0
 ·rw [aX hv];have hV:(fv y:Int)=0:=by omega
  have z0:cg (fv R:Int) 0:=by
   rw [hV,Ao,Ao,S7,Ao] at cr; exact cr
  have ne:∀ c:Int,¬ cg c 0->¬ cg ((fv y:Int)*((fv R:Int)*fv R)) (c*(fv x:Int)):=λ c hc h=>by
   rw [hV,Ao] at h;rcases pA h.symm with h | h
   ·exact hc h
   ·exact hU h
  have a0:=(qC hA).2 (ne 1 (ZJ (by decide)));have b0:=(qC hB).2 (ne (-1) (ZJ (by decide)));refine ⟨zero z0,?_⟩;rw [a0,b0]; rfl
 rw [aV hv];have hV:¬ cg (fv y:Int) 0:=λ h=>hv (by have:=rX.1 h; rwa [aY ly] at this);rw [aCE bHE,aCE bHE];have hw:cg ((fv x*Dd (fv y)%aK:Nat):Int) ((fv x:Int)*(fv y:Int) ^ (8*nU 253 252+3)) :=
  (Gc _ _).trans ((cg.refl _).mul (aTj bHD _))
 have hwl:=fG (fv x*Dd (fv y));generalize fv x*Dd (fv y)%aK=w at *;have hz:=aCF w (nU 253 252+1);have hzl:=fG (w ^ (nU 253 252+1));have hw2:cg ((iN*w%aK:Nat):Int) (iZ*(w:Int)):=Gc iN w;have hw2l:=fG (iN*w);generalize iN*w%aK=w2 at *;have hz2:=aCF w2 (nU 253 252+1);have hz2l:=fG (w2 ^ (nU 253 252+1));generalize w ^ (nU 253 252+1)%aK=z at *;generalize w2 ^ (nU 253 252+1)%aK=z2 at *;have same:=aDW _ aTi hV cr hw hz;have vw:cg ((fv y:Int)*(w:Int)) (fv x:Int):=by
  have h1:=(cg.refl (fv y:Int)).mul hw;have h2:=Ct hV _ aTi;have e:(fv y:Int)*((fv x:Int)*(fv y:Int) ^ (8*nU 253 252+3))=(fv x:Int)*(fv y:Int) ^ (8*nU 253 252+4):=by
   rw [show 8*nU 253 252+4=8*nU 253 252+3+1 from rfl,yQ];generalize (fv y:Int) ^ (8*nU 253 252+3)=K;grind
  rw [e] at h1;have h3:=h1.trans ((cg.refl (fv x:Int)).mul h2);rwa [Int.mul_one] at h3
 have hw0:¬ cg (w:Int) 0:=λ h=>hU (by
  have:=(cg.refl (fv y:Int)).mul h;rw [S7] at this;exact vw.symm.trans this)
 have turn:=aDY bJR hz hw2 hz2;have bDL:=aDX _ aTi hw0 (same.trans hz);have rz:=V4 hwl same.symm;have rz2:=V4 hw2l (Z:=-(fv R:Int)) (turn.trans same.symm.neg);rw [tZ,Int.mul_neg,Ca] at rz2;clear cr hw hz hz2;generalize hZ:(fv R:Int)=Z at *;have cz:cg ((z*iN%aK:Nat):Int) (Z*iZ):=(Gc z iN).trans (same.symm.mul (cg.refl _));have cz2:cg ((z2*iN%aK:Nat):Int) (-(Z*iZ)):=by
  have:=(Gc z2 iN).trans ((turn.trans same.symm.neg).mul (cg.refl _));rw [tZ] at this;exact this
 have lz:=fG (z*iN);have lz2:=fG (z2*iN);obtain ⟨zi,hzi⟩:∃ k,k=z*iN%aK:=⟨_,rfl⟩;obtain ⟨zi2,hzi2⟩:∃ k,k=z2*iN%aK:=⟨_,rfl⟩;rw [<-hzi] at cz lz rz;rw [<-hzi2] at cz2 lz2 rz2;clear hzi hzi2
 -- of the bDL,one alone
 have up:∀ c:Int,cg (Z*Z) (c*(w:Int))->cg ((fv y:Int)*(Z*Z)) (c*(fv x:Int)):=λ c h=>by
  have h1:=(cg.refl (fv y:Int)).mul h;rw [show (fv y:Int)*(c*(w:Int))=c*((fv y:Int)*(w:Int)) by rw [<-Int.mul_assoc,Int.mul_comm (fv y:Int) c,Int.mul_assoc]] at h1;exact h1.trans ((cg.refl c).mul vw)
 have no:∀ c d:Int,cg (Z*Z) (c*(w:Int))->¬ cg (c - d) 0->¬ cg ((fv y:Int)*(Z*Z)) (d*(fv x:Int)):=λ c d h hc g=>hc (aGQ hU ((up c h).symm.trans g));have nw:∀ c d:Int,cg (Z*Z) (c*(w:Int))->¬ cg (c - d) 0->¬ cg (Z*Z) (d*(w:Int)):=λ c d h hc g=>hc (aGQ hw0 (h.symm.trans g));have w1:(1:Int)*(w:Int)=w:=uA _;have wm:(-1:Int)*(w:Int)=-(w:Int):=by rw [tZ,uA]
 rcases bDL with h | h | h | h
 ·have h':cg (Z*Z) (1*(w:Int)):=by rwa [w1]
  have a1:=hA.2 (up 1 h');have b0:=(qC hB).2 (no 1 (-1) h' (ZJ (by decide)));have d0:=(qC hD).2 (no 1 (-iZ) h' (ZJ (by decide +kernel)));rw [rz.1 h,aLZ,a1,b0,d0];exact ⟨H0 hR hzl (.inl (by rw [hZ]; exact same)),rfl⟩
 ·have h':cg (Z*Z) (-1*(w:Int)):=by rwa [wm]
  have b1:=hB.2 (up (-1) h');have n1:=nw (-1) 1 h' (ZJ (by decide));rw [w1] at n1;rw [(rz.2 n1).1 h,aLZ,b1,IA,Bool.or_true];exact ⟨H0 hRi lz (.inl (cri.trans cz.symm)),rfl⟩
 ·have a0:=(qC hA).2 (no iZ 1 h (ZJ (by decide +kernel)));have b0:=(qC hB).2 (no iZ (-1) h (ZJ (by decide +kernel)));have d0:=(qC hD).2 (no iZ (-iZ) h (ZJ (by decide +kernel)));have n1:=nw iZ 1 h (ZJ (by decide +kernel));have n2:=nw iZ (-1) h (ZJ (by decide +kernel));rw [w1] at n1;rw [wm] at n2;rw [(rz.2 n1).2 n2,aL0,rz2.1 (h.trans hw2.symm),a0,b0,d0];refine ⟨H0 hR hz2l (.inr ?_),rfl⟩;rw [hZ];have:=(turn.trans same.symm.neg).neg;rw [Ca] at this;exact this.symm
 ·have h':cg (Z*Z) (-iZ*(w:Int)):=by rwa [tZ]
  have a0:=(qC hA).2 (no (-iZ) 1 h' (ZJ (by decide +kernel)));have b0:=(qC hB).2 (no (-iZ) (-1) h' (ZJ (by decide +kernel)));have d1:=hD.2 (up (-iZ) h');have n1:=nw (-iZ) 1 h' (ZJ (by decide +kernel));have n2:=nw (-iZ) (-1) h' (ZJ (by decide +kernel));have n3:=nw (-iZ) iZ h' (ZJ (by decide +kernel));rw [w1] at n1;rw [wm] at n2;have n3':¬ cg (Z*Z) (w2:Int):=λ g=>n3 (g.trans hw2);rw [(rz.2 n1).2 n2,aL0,(rz2.2 n3').1 (h.trans hw2.symm.neg),a0,b0,d1];refine ⟨H0 hRi lz2 (.inr ?_),rfl⟩;have:=cz2.symm.neg;rw [Ca] at this;exact cri.trans this
set_option maxRecDepth 4000
theorem bJT:nU 235 255=aK - 2:=by decide +kernel
end
end Go.Eng
