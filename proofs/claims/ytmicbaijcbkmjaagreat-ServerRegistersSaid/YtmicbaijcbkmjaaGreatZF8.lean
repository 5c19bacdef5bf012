import Derived.Test.YtmicbaijcbkmjaaGreatZF4
import Derived.Test.YtmicbaijcbkmjaaGreatZF6
namespace Go.Eng
open Go.IntKind (u64 i64 u8)
noncomputable section
open Go Go.Proofs
set_option linter.all false
section
variable (T0:Type) (R0:FA T0) (aG:T0->List Int) (aM:T0->Nat) (T1:Type) (R1:FA T1) (aN:T1->List Int) (bI:T1->Nat) (T2:Type) (R2:FA T2) (bC:T2->List Int) (bW:T2->Nat) (dW:T2->List Int) (eT:T2->Nat) (T3:Type) (R3:FA T3) (bO:T3->List Int) (cI:T3->Nat) (T4:Type) (R4:FA T4) (eV:T4->List Int) (jS:T4->Nat) (T5:Type) (R5:FA T5) (fW:T5->Int) (T6:Type) (R6:FA T6) (oH:T6->List Int) (oI:T6->Nat) (T7:Type) (R7:FA T7) (xA:T7->List Int) (Eh:T7->Nat)
def aP8:Cg:=⟨⟨dE [(45,⟨R0,λ t=>AV.s (dI (aG t) (aM t))⟩),(53,⟨R1,λ t=>AV.s (dI (aN t) (bI t))⟩),(26,⟨R2,λ t=>AV.tup [.s (dI (bC t) (bW t)),.s (dI (dW t) (eT t))]⟩),(95,⟨R3,λ t=>AV.s (dI (bO t) (cI t))⟩),(40,⟨R4,λ t=>AV.s (dI (eV t) (jS t))⟩),(44,⟨R5,λ t=>AV.int .i64 (fW t)⟩),(50,⟨R6,λ t=>AV.s (dI (oH t) (oI t))⟩),(97,⟨R7,λ t=>AV.s (dI (xA t) (Eh t))⟩)],[],dR⟩,[]⟩
theorem aWP (fu:Nat) (x:Nat):bB prog Tryz.f96 (aP8 T0 R0 aG aM T1 R1 aN bI T2 R2 bC bW dW eT T3 R3 bO cI T4 R4 eV jS T5 R5 fW T6 R6 oH oI T7 R7 xA Eh) fu [eN x]=(R0 []).bind λ t=>(R1 [.s (dI (aG t) (aM t)),.s (dI [3] 1)]).bind λ t=>(R2 [.s (dI (aN t) (bI t)),.s (dI [8] 1)]).bind λ t=>(R3 [.s (dI (nb x) (nb x).length),.s (dI (bC t) (bW t))]).bind λ t=>(R4 [.s (dI (bO t) (cI t)),.s (dI (bO t) (cI t))]).bind λ dH=>(R5 [.s (dI (eV dH) (jS dH)),.s (dI (nb x) (nb x).length)]).bind λ eU=>bif decide (fW eU=0) then (R6 [.s (dI (bO t) (cI t))]).bind λ t=>some (AV.tup [.s (dI (oH t) (oI t)),.s (.pl (.bool true))]) else (R7 []).bind λ gE=>(R4 [.s (dI (bO t) (cI t)),.s (dI (xA gE) (Eh gE))]).bind λ t=>(R6 [.s (dI (eV t) (jS t))]).bind λ gT=>(R4 [.s (dI (eV t) (jS t)),.s (dI (eV t) (jS t))]).bind λ t=>(R5 [.s (dI (eV t) (jS t)),.s (dI (nb x) (nb x).length)]).bind λ t=>some (AV.tup [.s (dI (oH gT) (oI gT)),.s (.pl (.bool (decide (fW t=0))))]):=by kernel_rfl
end
section
variable (T0:Type) (R0:FA T0) (aG:T0->List Int) (aM:T0->Nat) (T1:Type) (R1:FA T1) (aN:T1->List Int) (bI:T1->Nat) (T2:Type) (R2:FA T2) (bC:T2->List Int) (bW:T2->Nat) (dW:T2->Bool) (T3:Type) (R3:FA T3) (bO:T3->List Int) (cI:T3->Nat)
def aP9:Cg:=⟨⟨dE [(43,⟨R0,λ t=>AV.s (dI (aG t) (aM t))⟩),(40,⟨R1,λ t=>AV.s (dI (aN t) (bI t))⟩),(96,⟨R2,λ t=>AV.tup [.s (dI (bC t) (bW t)),.s (.pl (.bool (dW t)))]⟩),(97,⟨R3,λ t=>AV.s (dI (bO t) (cI t))⟩)],[],dR⟩,[]⟩
theorem aWQ (fu:Nat) (x y:Nat):bB prog Tryz.f49 (aP9 T0 R0 aG aM T1 R1 aN bI T2 R2 bC bW dW T3 R3 bO cI) fu [eN x,eN y]=bif decide ((↑(nb x).length:Int)=0) then some (AV.tup [.s (dI [] 0),.s (.pl (.bool true))]) else bif decide ((↑(nb y).length:Int)=0) then some (AV.tup [.s (dI [] 0),.s (.pl (.bool false))]) else (R0 [.s (dI (nb y) (nb y).length)]).bind λ t=>(R1 [.s (dI (nb x) (nb x).length),.s (dI (aG t) (aM t))]).bind λ t=>(R2 [.s (dI (aN t) (bI t))]).bind λ dH=>bif dW dH then some (AV.tup [.s (dI (bC dH) (bW dH)),.s (.pl (.bool true))]) else (R3 []).bind λ eU=>(R1 [.s (dI (bO eU) (cI eU)),.s (dI (aN t) (bI t))]).bind λ t=>(R2 [.s (dI (aN t) (bI t))]).bind λ t=>some (AV.tup [.s (dI (bC t) (bW t)),.s (.pl (.bool false))]):=by kernel_rfl
end
set_option maxRecDepth 4000
theorem eN3:AV.s (SV.dat (TRow.ints i64 [(3:Int)]) 1 1)=eN 3:=rfl
theorem eN8:AV.s (SV.dat (TRow.ints i64 [(8:Int)]) 1 1)=eN 8:=rfl
theorem SX (x y:Nat):(qO x y=0) ↔ x=y:=by
 unfold qO;rcases Nat.lt_trichotomy x y with h | h | h
 ·rw [aE h]; simp; omega
 ·subst h; simp
 ·rw [aH (by omega),aE h]; simp; omega
theorem YV:iN < aJ:=by decide
theorem O9:rRI []=some iN:=rfl
abbrev aWR:Cg:=aP8 (Nat) rRP (λ t=>nb t) (λ t=>(nb t).length) (Nat) jF (λ t=>nb t) (λ t=>(nb t).length) (Nat × Nat) Gz (λ t=>nb t.fst) (λ t=>(nb t.fst).length) (λ t=>nb t.snd) (λ t=>(nb t.snd).length) (Nat) Q8 (λ t=>nb t) (λ t=>(nb t).length) (Nat) oR (λ t=>nb t) (λ t=>(nb t).length) (Int) nE (λ t=>t) (Nat) Dp (λ t=>nb t) (λ t=>(nb t).length) (Nat) rRI (λ t=>nb t) (λ t=>(nb t).length)
theorem aNv:CfOk prog aWR.c:=gk <| aA LJ <| aA sS <| aA Fa <| aA Mq <| aA uC <| aA BL <| aA HJ <| aA aC0 <| aK
theorem aHD:CallOk prog 96 N3:=by
 refine i7 aNv Tryz.func96 ?_;intro args t ht;unfold N3 mJ at ht;simp only at ht;split at ht
 ·rename_i l n;obtain ⟨h1,h2⟩:=cC ht;rw [aX] at h1;obtain ⟨a,rfl,rfl,hx,ex⟩:=o8 h1.1;have ha:=y5 h1.2;rw [ex] at ha h2;subst h2;refine (aWP ..).trans ?_;show _=some (eNB (y8 a));unfold y8;have la:=rL ha;have h3:=iQ (x:=aJ) (y:=3) (by rw [Tl]; omega) (by decide);have hd:=Cp (x:=aJ+3) (y:=8) (cK (dA (k:=32) (by decide +kernel)) (by decide)) (by decide) (by decide);generalize hq:(aJ+3) / 8=q at *;have hl:(nb q).length <= 1048576:=cK (dA (k:=32) (by rw [<-hq]; decide +kernel)) (by decide);have hp:=Ib (a:=a) (y:=q) ha hl;have hz:=eM (a ^ q);generalize a ^ q%aJ=z at *;generalize aJ+3=w at *;have m1:=bJ hz hz;have l1:=rL (eM (z*z));have c1:=mM (x:=z*z%aJ) (y:=a) (by omega) (by omega);have a1:=AD hz;have m2:=bJ hz YV;have hz2:=eM (z*iN);generalize z*iN%aJ=z2 at *;have a2:=AD hz2;have m3:=bJ hz2 hz2;have l3:=rL (eM (z2*z2));have c3:=mM (x:=z2*z2%aJ) (y:=a) (by omega) (by omega);rw [<-eN3] at h3;rw [<-eN8] at hd;simp only [eN] at h3 hd hp m1 c1 a1 m2 a2 m3 c3;rw [E6,aC,h3,aC,hd,aC,hp,aC,m1,aC,c1,aC,j7.2 (SX (z*z%aJ) a)];by_cases g:z*z%aJ=a
  ·rw [aE g,aB,a1,aT g]; rfl
  ·rw [aH g,aD,O9,aC,m2,aC,a2,aC,m3,aC,c3,aC,j7.2 (SX (z2*z2%aJ) a),aW g];rfl
 ·cases ht
theorem Lx {a:Nat} (h:a < aJ):JC [eN a]=some (y8 a):=by
 have l:=rL h;simp only [JC,N3,mJ,eN];rw [nV (by omega),fY,y6 h]; rfl
def Bl (a:Nat):Nat:=a ^ (aJ - 2)%aJ
theorem aHE (x:Nat) (b:Bool):some (AV.tup [CV.s (SV.dat (TRow.ints i64 (nb x)) (nb x).length 1),CV.s (SV.pl (Pl.bool b))])=some (eNB (x,b)):=rfl
def aHF (R1 R2:Nat × Bool):Nat × Bool:=cond R1.2 (R1.1,true) (R2.1,false)
def aNw (u v w:Nat):Nat × Bool :=
 if u=0 then (0,true) else if v=0 then (0,false) else aHF (y8 (u*w%aJ)) (y8 (iN*(u*w%aJ)%aJ))
theorem aHG {w k:Nat} {R1 R2:Nat × Bool} (m2:oR [eN iN,eN w]=some k) (r2:JC [eN k]=some R2) :
  (bif R1.2 then some (AV.tup [CV.s (SV.dat (TRow.ints i64 (nb R1.1)) (nb R1.1).length (1:Nat)),CV.s (SV.pl (Pl.bool true))])
      else
       (rRI []).bind λ (eU:Nat)=>
        (oR [AV.s (SV.dat (TRow.ints i64 (nb eU)) (nb eU).length (1:Nat)),AV.s (SV.dat (TRow.ints i64 (nb w)) (nb w).length (1:Nat))]).bind λ (t:Nat)=>
         (JC [AV.s (SV.dat (TRow.ints i64 (nb t)) (nb t).length (1:Nat))]).bind λ (t:Nat × Bool)=>
          some (AV.tup [CV.s (SV.dat (TRow.ints i64 (nb t.1)) (nb t.1).length (1:Nat)),CV.s (SV.pl (Pl.bool false))]))=some (eNB (aHF R1 R2)):=by
 obtain ⟨a,b⟩:=R1;simp only [eN] at m2 r2;cases b
 ·rw [aD,O9,aC,m2,aC,r2,aC];exact aHE R2.1 false
 ·exact aHE a true
theorem aNx (R1 R2:Nat × Bool):(if R1.2=true then (R1.1,true) else (R2.1,false))=aHF R1 R2:=by
 obtain ⟨a,b⟩:=R1;cases b
 ·exact aW (λ e=>Bool.noConfusion e)
 ·exact aT rfl
theorem YW (u v:Nat):Bh u v=aNw u v (Bl v):=by
 unfold Bh aNw;rw [aNx];rfl
theorem aNy (v:Nat):Bl v < aJ:=eM _
theorem Ly {v:Nat} (hv:v < aJ):LT [eN v]=some (Bl v):=QT hv
abbrev aWS:Cg:=aP9 (Nat) LT (λ t=>nb t) (λ t=>(nb t).length) (Nat) oR (λ t=>nb t) (λ t=>(nb t).length) (Nat × Bool) JC (λ t=>nb t.fst) (λ t=>(nb t.fst).length) (λ t=>t.2) (Nat) rRI (λ t=>nb t) (λ t=>(nb t).length)
theorem aNz:CfOk prog aWS.c:=gk <| aA Mr <| aA uC <| aA aHD <| aA aC0 <| aK
theorem YX:CallOk prog 49 aFd:=by
 refine i7 aNz Tryz.func49 ?_;intro args t ht;obtain ⟨u,v,rfl,hx,hy,hc,rfl⟩:=nW (F:=Bh) (C:=λ a b=>bP a && bP b) ht;rw [aX] at hc;have hu:=y5 hc.1;have hv:=y5 hc.2;refine (aWQ ..).trans ?_;show _=some (eNB (Bh u v));rw [YW];have i1:=Ly hv;have hi:=aNy v;generalize Bl v=z at *;clear ht;unfold aNw;by_cases c1:u=0
 ·have:=(sX u).2 c1;rw [aE (by omega),aB,aT c1]; rfl
 have n1:¬ (nb u).length=0:=λ h=>c1 ((sX u).1 h);by_cases c2:v=0
 ·have:=(sX v).2 c2;rw [aH (by omega),aD,aE (by omega),aB,aW c1,aT c2]; rfl
 have n2:¬ (nb v).length=0:=λ h=>c2 ((sX v).1 h);have m1:=bJ hu hi;have hw:=eM (u*z);generalize u*z%aJ=w at *;have r1:=Lx hw;have m2:=bJ YV hw;have r2:=Lx (eM (iN*w));have d1:decide (((nb u).length:Int)=0)=false:=aH (by omega);have d2:decide (((nb v).length:Int)=0)=false:=aH (by omega);simp only [eN] at i1 m1 r1 m2 r2;generalize y8 (iN*w%aJ)=R2 at *;generalize y8 w=R1 at *;rw [d1,aD,d2,aD,i1,aC,m1,aC,r1,aC,aW c1,aW c2];exact aHG m2 r2
theorem SY {u v:Nat} (h:u < aJ) (h2:v < aJ):JD [eN u,eN v]=some (Bh u v):=by
 have l1:=rL h;have l2:=rL h2;simp only [JD,aFd];exact yF Bh (λ a b=>bP a && bP b) (by omega) (by omega) (by rw [y6 h,y6 h2]; rfl)
set_option maxRecDepth 4000
theorem aWT {k:Nat} (h:k < aJ):oY k=Qf k:=by
 rw [oY,Qf];cases hb:Nat.beq (k%2) 1
 ·have h0:¬ k%2=1:=λ h=>by rw [h] at hb; cases hb
  rw [aD,aW h0]
 ·have h1:=aS hb;rw [aB,aT h1];simp only [aJ] at *;omega
theorem Fk {z:Fe} (hz:cN z) {k:Nat} (hk:k < aJ) (h:cg (fv z:Int) (k:Int) ∨ cg (fv z:Int) (-(k:Int))):fv (wJ z)%aJ=oY k:=by
 have e:fv (fe k)=k:=CF (fC hk (by decide));have:=aDP hz (cV k) NL (by rw [e]; exact h);have h2:=HF (cV k) NL;rw [e,aV hk] at h2;rw [aWT hk,<-h2];have e2:fv (fe k)%aJ=k:=by rw [e,aV hk]
 rw [e2] at this;exact this
theorem aQa:(fv iF:Int)=iZ:=by decide +kernel
theorem aNA:8*lR 253 252+4=aJ - 1:=by decide +kernel
theorem aZA:8*lR 253 252+3=aJ - 2:=by decide +kernel
theorem aZB:(aJ+3) / 8=lR 253 252+1:=by decide +kernel
theorem bAt:lR 253 252+1=2*(2*1809251394333065553493296640760748560207343510400633813116524750123642650623+1):=by decide +kernel
theorem SZ {e:Nat} (h:e=aJ - 2) (v:Nat):Bl v=v ^ e%aJ:=by rw [h]; rfl
theorem aNB {e:Nat} (h:e=aJ - 2) (v:Nat):cg (Bl v:Int) ((v:Int) ^ e):=by
 have:=mG.2 (show (v ^ e%aJ)%aJ=v ^ e%aJ from sL _ _);rw [J8] at this;rwa [SZ h]
def Sa (a z:Nat):Nat × Bool:=if z*z%aJ=a then (oY z,true) else (oY (z*iN%aJ),decide (z*iN%aJ*(z*iN%aJ)%aJ=a))
theorem YY {q:Nat} (h:(aJ+3) / 8=q) (a:Nat):y8 a=Sa a (a ^ q%aJ):=by rw [<-h]; rfl
theorem YZ (a q:Nat):cg ((a ^ q%aJ:Nat):Int) ((a:Int) ^ q):=by
 have:=mG.2 (show (a ^ q%aJ)%aJ=a ^ q%aJ from sL _ _);rwa [J8] at this
theorem Ea (a b:Nat):cg ((a*b%aJ:Nat):Int) ((a:Int)*(b:Int)):=by
 have:=mG.2 (show (a*b%aJ)%aJ=a*b%aJ from sL _ _);rwa [oA] at this
theorem bAu:((iN:Nat):Int)=iZ:=rfl
theorem Sb {a z:Nat} (ha:a < aJ) {Z:Int} (hz:cg (z:Int) Z) :
  (cg (Z*Z) (a:Int)->Sa a z=(oY z,true)) /\
  (¬ cg (Z*Z) (a:Int)->(cg (Z*Z) (-(a:Int))->Sa a z=(oY (z*iN%aJ),true)) /\ (¬ cg (Z*Z) (-(a:Int))->Sa a z=(oY (z*iN%aJ),false))):=by
 have h1:=aC3 ha hz;have hz2:cg ((z*iN%aJ:Nat):Int) (Z*iZ):=by
  have:=Ea z iN;rw [bAu] at this;exact this.trans (hz.mul (cg.refl _))
 have h2:=aC3 ha hz2;unfold Sa;generalize z*iN%aJ=z2 at *;have e:cg (Z*iZ*(Z*iZ)) (a:Int) ↔ cg (Z*Z) (-(a:Int)):=by
  have hs:=aJB Z;constructor
  ·intro h;have:=(hs.symm.trans h).neg;rwa [Ap] at this
  ·intro h;have:=hs.trans h.neg;rwa [Ap] at this
 refine ⟨λ h=>aT (h1.2 h),λ h=>⟨λ g=>?_,λ g=>?_⟩⟩
 ·rw [aW λ x=>h (h1.1 x),aE (h2.2 (e.2 g))]
 ·rw [aW λ x=>h (h1.1 x),aH λ x=>g (e.1 (h2.1 x))]
theorem VF {c:Int} (h:c%57896044618658097711785492504343953926634992332820282019728792003956564819949 ≠ 0):¬ cg c 0:=by
 rintro ⟨k,hk⟩;omega
theorem aHH (a:Nat) (R2:Nat × Bool):aHF (a,true) R2=(a,true):=rfl
theorem aHI (a:Nat) (R2:Nat × Bool):aHF (a,false) R2=(R2.1,false):=rfl
theorem aQb:oY 0=0:=by decide
theorem aHJ {a b:Int} (h:cg a 0):cg (a*b) 0:=by
 have:=h.mul (cg.refl b);rwa [yN] at this
theorem nZ {A:Bool} {p:Prop} (h:A=true ↔ p):(p->A=true) /\ (¬ p->A=false):=by
 refine ⟨h.2,λ g=>?_⟩;cases A
 ·rfl
 ·exact absurd (h.1 rfl) g
theorem aHK {x y:Fe} (hx:cN x) (hy:cN y) (lx:fv x < aJ) (ly:fv y < aJ) :
  fv (mI x y).1%aJ=(Bh (fv x) (fv y)).1 /\ (mI x y).2=(Bh (fv x) (fv y)).2:=by
 have c3:cg (fv (aO (aO y y) y):Int) ((fv y:Int)*fv y*fv y):=(gK _ y).trans ((gK y y).mul (cg.refl _));have c7:cg (fv (aO x (aO (aO (aO (aO y y) y) (aO (aO y y) y)) y)):Int) ((fv x:Int)*((fv y:Int)*fv y*fv y*((fv y:Int)*fv y*fv y)*fv y)) :=
  (gK x _).trans ((cg.refl _).mul ((gK _ y).trans (((gK _ _).trans (c3.mul c3)).mul (cg.refl _))))
 have cr:cg (fv (dO x y):Int) ((fv x:Int)*((fv y:Int)*fv y*fv y)*((fv x:Int)*((fv y:Int)*fv y*fv y*((fv y:Int)*fv y*fv y)*fv y)) ^ lR 253 252) :=
  (gK _ _).trans (((gK x _).trans ((cg.refl _).mul c3)).mul ((Wg _ 253 252).trans (c7.pow _)))
 have hR:cN (dO x y):=Ms hx hy;rw [YW];unfold mI;generalize dO x y=R at *;clear c3 c7;have cc:cg (fv (aO y (aO R R)):Int) ((fv y:Int)*((fv R:Int)*fv R)):=(gK y _).trans ((cg.refl _).mul (gK R R));have cn:=aS4 hx;have ci:cg (fv (aO (cJ f0 x) iF):Int) (-iZ*(fv x:Int)):=by
  have:=(gK (cJ f0 x) iF).trans (cn.mul (cg.refl _));rw [aQa,rD,Int.mul_comm,<-rD] at this;exact this
 have hA:kO (aO y (aO R R)) x=true ↔ cg ((fv y:Int)*((fv R:Int)*fv R)) (1*(fv x:Int)):=by
  rw [rE];exact DY.trans ⟨λ h=>cc.symm.trans h,λ h=>cc.trans h⟩
 have hB:kO (aO y (aO R R)) (cJ f0 x)=true ↔ cg ((fv y:Int)*((fv R:Int)*fv R)) (-1*(fv x:Int)):=by
  rw [rD,rE];exact DY.trans ⟨λ h=>cc.symm.trans (h.trans cn),λ h=>cc.trans (h.trans cn.symm)⟩
 have hD:kO (aO y (aO R R)) (aO (cJ f0 x) iF)=true ↔ cg ((fv y:Int)*((fv R:Int)*fv R)) (-iZ*(fv x:Int)) :=
  DY.trans ⟨λ h=>cc.symm.trans (h.trans ci),λ h=>cc.trans (h.trans ci.symm)⟩
 have cri:cg (fv (aO R iF):Int) ((fv R:Int)*iZ):=by
  have:=gK R iF;rwa [aQa] at this
 have hRi:cN (aO R iF):=aL hR wD;generalize kO (aO y (aO R R)) x=A at *;generalize kO (aO y (aO R R)) (cJ f0 x)=B at *;generalize kO (aO y (aO R R)) (aO (cJ f0 x) iF)=D at *;generalize aO R iF=Q at *;clear cc cn ci;have zero:cg (fv R:Int) 0->fv (wJ (cond (B || D) Q R))%aJ=0:=by
  intro h;have k0:((0:Nat):Int)=0:=rfl;cases (B || D)
  ·rw [aD,Fk hR (k:=0) (by decide) (.inl h),aQb]
  ·rw [aB,Fk hRi (k:=0) (by decide) (.inl (cri.trans (aHJ h))),aQb]
 unfold aNw;by_cases hu:fv x=0
 ·rw [aT hu];have hU:(fv x:Int)=0:=by omega
  rw [hU] at cr;have z0:cg (fv R:Int) 0:=by
   rw [yN,yN] at cr; exact cr
  have:A=true:=hA.2 (by
   rw [hU,PE];have:=aHJ (b:=(fv R:Int)) z0;have:=(cg.refl (fv y:Int)).mul this;rwa [PE] at this)
  rw [this,Fp];exact ⟨zero z0,rfl⟩
 rw [aW hu];have hU:¬ cg (fv x:Int) 0:=λ h=>hu (by have:=pL.1 h; rwa [aV lx] at this);by_cases hv:fv y=0
 ·rw [aT hv];have hV:(fv y:Int)=0:=by omega
  have z0:cg (fv R:Int) 0:=by
   rw [hV,yN,yN,PE,yN] at cr; exact cr
  have ne:∀ c:Int,¬ cg c 0->¬ cg ((fv y:Int)*((fv R:Int)*fv R)) (c*(fv x:Int)):=λ c hc h=>by
   rw [hV,yN] at h;rcases mU h.symm with h | h
   ·exact hc h
   ·exact hU h
  have a0:=(nZ hA).2 (ne 1 (VF (by decide)));have b0:=(nZ hB).2 (ne (-1) (VF (by decide)));refine ⟨zero z0,?_⟩;rw [a0,b0]; rfl
 rw [aW hv];have hV:¬ cg (fv y:Int) 0:=λ h=>hv (by have:=pL.1 h; rwa [aV ly] at this);rw [YY aZB,YY aZB];have hw:cg ((fv x*Bl (fv y)%aJ:Nat):Int) ((fv x:Int)*(fv y:Int) ^ (8*lR 253 252+3)) :=
  (Ea _ _).trans ((cg.refl _).mul (aNB aZA _))
 have hwl:=eM (fv x*Bl (fv y));generalize fv x*Bl (fv y)%aJ=w at *;have hz:=YZ w (lR 253 252+1);have hzl:=eM (w ^ (lR 253 252+1));have hw2:cg ((iN*w%aJ:Nat):Int) (iZ*(w:Int)):=Ea iN w;have hw2l:=eM (iN*w);generalize iN*w%aJ=w2 at *;have hz2:=YZ w2 (lR 253 252+1);have hz2l:=eM (w2 ^ (lR 253 252+1));generalize w ^ (lR 253 252+1)%aJ=z at *;generalize w2 ^ (lR 253 252+1)%aJ=z2 at *;have same:=ZT _ aNA hV cr hw hz;have vw:cg ((fv y:Int)*(w:Int)) (fv x:Int):=by
  have h1:=(cg.refl (fv y:Int)).mul hw;have h2:=A6 hV _ aNA;have e:(fv y:Int)*((fv x:Int)*(fv y:Int) ^ (8*lR 253 252+3))=(fv x:Int)*(fv y:Int) ^ (8*lR 253 252+4):=by
   rw [show 8*lR 253 252+4=8*lR 253 252+3+1 from rfl,vF];generalize (fv y:Int) ^ (8*lR 253 252+3)=K;grind
  rw [e] at h1;have h3:=h1.trans ((cg.refl (fv x:Int)).mul h2);rwa [Int.mul_one] at h3
 have hw0:¬ cg (w:Int) 0:=λ h=>hU (by
  have:=(cg.refl (fv y:Int)).mul h;rw [PE] at this;exact vw.symm.trans this)
 have turn:=ZV bAt hz hw2 hz2;have aWU:=ZU _ aNA hw0 (same.trans hz);have rz:=Sb hwl same.symm;have rz2:=Sb hw2l (Z:=-(fv R:Int)) (turn.trans same.symm.neg);rw [rD,Int.mul_neg,Ap] at rz2;clear cr hw hz hz2;generalize hZ:(fv R:Int)=Z at *;have cz:cg ((z*iN%aJ:Nat):Int) (Z*iZ):=(Ea z iN).trans (same.symm.mul (cg.refl _));have cz2:cg ((z2*iN%aJ:Nat):Int) (-(Z*iZ)):=by
  have:=(Ea z2 iN).trans ((turn.trans same.symm.neg).mul (cg.refl _));rw [rD] at this;exact this
 have lz:=eM (z*iN);have lz2:=eM (z2*iN);obtain ⟨zi,hzi⟩:∃ k,k=z*iN%aJ:=⟨_,rfl⟩;obtain ⟨zi2,hzi2⟩:∃ k,k=z2*iN%aJ:=⟨_,rfl⟩;rw [<-hzi] at cz lz rz;rw [<-hzi2] at cz2 lz2 rz2;clear hzi hzi2
 -- of the aWU,one alone
 have up:∀ c:Int,cg (Z*Z) (c*(w:Int))->cg ((fv y:Int)*(Z*Z)) (c*(fv x:Int)):=λ c h=>by
  have h1:=(cg.refl (fv y:Int)).mul h;rw [show (fv y:Int)*(c*(w:Int))=c*((fv y:Int)*(w:Int)) by rw [<-Int.mul_assoc,Int.mul_comm (fv y:Int) c,Int.mul_assoc]] at h1;exact h1.trans ((cg.refl c).mul vw)
 have no:∀ c d:Int,cg (Z*Z) (c*(w:Int))->¬ cg (c - d) 0->¬ cg ((fv y:Int)*(Z*Z)) (d*(fv x:Int)):=λ c d h hc g=>hc (aC2 hU ((up c h).symm.trans g));have nw:∀ c d:Int,cg (Z*Z) (c*(w:Int))->¬ cg (c - d) 0->¬ cg (Z*Z) (d*(w:Int)):=λ c d h hc g=>hc (aC2 hw0 (h.symm.trans g));have w1:(1:Int)*(w:Int)=w:=rE _;have wm:(-1:Int)*(w:Int)=-(w:Int):=by rw [rD,rE]
 rcases aWU with h | h | h | h
 ·have h':cg (Z*Z) (1*(w:Int)):=by rwa [w1]
  have a1:=hA.2 (up 1 h');have b0:=(nZ hB).2 (no 1 (-1) h' (VF (by decide)));have d0:=(nZ hD).2 (no 1 (-iZ) h' (VF (by decide +kernel)));rw [rz.1 h,aHH,a1,b0,d0];exact ⟨Fk hR hzl (.inl (by rw [hZ]; exact same)),rfl⟩
 ·have h':cg (Z*Z) (-1*(w:Int)):=by rwa [wm]
  have b1:=hB.2 (up (-1) h');have n1:=nw (-1) 1 h' (VF (by decide));rw [w1] at n1;rw [(rz.2 n1).1 h,aHH,b1,Fp,Bool.or_true];exact ⟨Fk hRi lz (.inl (cri.trans cz.symm)),rfl⟩
 ·have a0:=(nZ hA).2 (no iZ 1 h (VF (by decide +kernel)));have b0:=(nZ hB).2 (no iZ (-1) h (VF (by decide +kernel)));have d0:=(nZ hD).2 (no iZ (-iZ) h (VF (by decide +kernel)));have n1:=nw iZ 1 h (VF (by decide +kernel));have n2:=nw iZ (-1) h (VF (by decide +kernel));rw [w1] at n1;rw [wm] at n2;rw [(rz.2 n1).2 n2,aHI,rz2.1 (h.trans hw2.symm),a0,b0,d0];refine ⟨Fk hR hz2l (.inr ?_),rfl⟩;rw [hZ];have:=(turn.trans same.symm.neg).neg;rw [Ap] at this;exact this.symm
 ·have h':cg (Z*Z) (-iZ*(w:Int)):=by rwa [rD]
  have a0:=(nZ hA).2 (no (-iZ) 1 h' (VF (by decide +kernel)));have b0:=(nZ hB).2 (no (-iZ) (-1) h' (VF (by decide +kernel)));have d1:=hD.2 (up (-iZ) h');have n1:=nw (-iZ) 1 h' (VF (by decide +kernel));have n2:=nw (-iZ) (-1) h' (VF (by decide +kernel));have n3:=nw (-iZ) iZ h' (VF (by decide +kernel));rw [w1] at n1;rw [wm] at n2;have n3':¬ cg (Z*Z) (w2:Int):=λ g=>n3 (g.trans hw2);rw [(rz.2 n1).2 n2,aHI,(rz2.2 n3').1 (h.trans hw2.symm.neg),a0,b0,d1];refine ⟨Fk hRi lz2 (.inr ?_),rfl⟩;have:=cz2.symm.neg;rw [Ap] at this;exact cri.trans this
set_option maxRecDepth 4000
theorem bAv:lR 235 255=aJ - 2:=by decide +kernel
end
end Go.Eng
