import Derived.Test.YtmicbaijcbkmjaaGreatZF4
import Derived.Test.YtmicbaijcbkmjaaGreatZF6
namespace Go.Eng
open Go.IntKind (u64 i64 u8)
noncomputable section
open Go Go.Proofs
set_option linter.all false
section
variable (T0:Type) (R0:FA T0) (aG:T0->List Int) (aM:T0->Nat) (T1:Type) (R1:FA T1) (aN:T1->List Int) (bI:T1->Nat) (T2:Type) (R2:FA T2) (bC:T2->List Int) (bW:T2->Nat) (dW:T2->List Int) (eT:T2->Nat) (T3:Type) (R3:FA T3) (bO:T3->List Int) (cI:T3->Nat) (T4:Type) (R4:FA T4) (eV:T4->List Int) (jS:T4->Nat) (T5:Type) (R5:FA T5) (fW:T5->Int) (T6:Type) (R6:FA T6) (oH:T6->List Int) (oI:T6->Nat) (T7:Type) (R7:FA T7) (xB:T7->List Int) (Eh:T7->Nat)
def aPi:Cg:=⟨⟨dD [(45,⟨R0,λ t=>AV.s (dI (aG t) (aM t))⟩),(53,⟨R1,λ t=>AV.s (dI (aN t) (bI t))⟩),(26,⟨R2,λ t=>AV.tup [.s (dI (bC t) (bW t)),.s (dI (dW t) (eT t))]⟩),(95,⟨R3,λ t=>AV.s (dI (bO t) (cI t))⟩),(40,⟨R4,λ t=>AV.s (dI (eV t) (jS t))⟩),(44,⟨R5,λ t=>AV.int .i64 (fW t)⟩),(50,⟨R6,λ t=>AV.s (dI (oH t) (oI t))⟩),(97,⟨R7,λ t=>AV.s (dI (xB t) (Eh t))⟩)],[],dS⟩,[]⟩
theorem aUG (fu:Nat) (x:Nat):bB prog Tryz.f96 (aPi T0 R0 aG aM T1 R1 aN bI T2 R2 bC bW dW eT T3 R3 bO cI T4 R4 eV jS T5 R5 fW T6 R6 oH oI T7 R7 xB Eh) fu [eN x]=(R0 []).bind λ t=>(R1 [.s (dI (aG t) (aM t)),.s (dI [3] 1)]).bind λ t=>(R2 [.s (dI (aN t) (bI t)),.s (dI [8] 1)]).bind λ t=>(R3 [.s (dI (nb x) (nb x).length),.s (dI (bC t) (bW t))]).bind λ t=>(R4 [.s (dI (bO t) (cI t)),.s (dI (bO t) (cI t))]).bind λ dH=>(R5 [.s (dI (eV dH) (jS dH)),.s (dI (nb x) (nb x).length)]).bind λ eU=>bif decide (fW eU=0) then (R6 [.s (dI (bO t) (cI t))]).bind λ t=>some (AV.tup [.s (dI (oH t) (oI t)),.s (.pl (.bool true))]) else (R7 []).bind λ gF=>(R4 [.s (dI (bO t) (cI t)),.s (dI (xB gF) (Eh gF))]).bind λ t=>(R6 [.s (dI (eV t) (jS t))]).bind λ gT=>(R4 [.s (dI (eV t) (jS t)),.s (dI (eV t) (jS t))]).bind λ t=>(R5 [.s (dI (eV t) (jS t)),.s (dI (nb x) (nb x).length)]).bind λ t=>some (AV.tup [.s (dI (oH gT) (oI gT)),.s (.pl (.bool (decide (fW t=0))))]):=by kernel_rfl
end
section
variable (T0:Type) (R0:FA T0) (aG:T0->List Int) (aM:T0->Nat) (T1:Type) (R1:FA T1) (aN:T1->List Int) (bI:T1->Nat) (T2:Type) (R2:FA T2) (bC:T2->List Int) (bW:T2->Nat) (dW:T2->Bool) (T3:Type) (R3:FA T3) (bO:T3->List Int) (cI:T3->Nat)
def aPj:Cg:=⟨⟨dD [(43,⟨R0,λ t=>AV.s (dI (aG t) (aM t))⟩),(40,⟨R1,λ t=>AV.s (dI (aN t) (bI t))⟩),(96,⟨R2,λ t=>AV.tup [.s (dI (bC t) (bW t)),.s (.pl (.bool (dW t)))]⟩),(97,⟨R3,λ t=>AV.s (dI (bO t) (cI t))⟩)],[],dS⟩,[]⟩
theorem aUH (fu:Nat) (x y:Nat):bB prog Tryz.f49 (aPj T0 R0 aG aM T1 R1 aN bI T2 R2 bC bW dW T3 R3 bO cI) fu [eN x,eN y]=bif decide ((↑(nb x).length:Int)=0) then some (AV.tup [.s (dI [] 0),.s (.pl (.bool true))]) else bif decide ((↑(nb y).length:Int)=0) then some (AV.tup [.s (dI [] 0),.s (.pl (.bool false))]) else (R0 [.s (dI (nb y) (nb y).length)]).bind λ t=>(R1 [.s (dI (nb x) (nb x).length),.s (dI (aG t) (aM t))]).bind λ t=>(R2 [.s (dI (aN t) (bI t))]).bind λ dH=>bif dW dH then some (AV.tup [.s (dI (bC dH) (bW dH)),.s (.pl (.bool true))]) else (R3 []).bind λ eU=>(R1 [.s (dI (bO eU) (cI eU)),.s (dI (aN t) (bI t))]).bind λ t=>(R2 [.s (dI (aN t) (bI t))]).bind λ t=>some (AV.tup [.s (dI (bC t) (bW t)),.s (.pl (.bool false))]):=by kernel_rfl
end
set_option maxRecDepth 4000
theorem eN3:AV.s (SV.dat (TRow.ints i64 [(3:Int)]) 1 1)=eN 3:=rfl
theorem eN8:AV.s (SV.dat (TRow.ints i64 [(8:Int)]) 1 1)=eN 8:=rfl
theorem RZ (x y:Nat):(qS x y=0) ↔ x=y:=by
 unfold qS;rcases Nat.lt_trichotomy x y with h | h | h
 ·rw [aE h]; simp; omega
 ·subst h; simp
 ·rw [aH (by omega),aE h]; simp; omega
theorem Xi:iN < aJ:=by decide
theorem OL:rRI []=some iN:=rfl
abbrev aUI:Cg:=aPi (Nat) rRP (λ t=>nb t) (λ t=>(nb t).length) (Nat) jF (λ t=>nb t) (λ t=>(nb t).length) (Nat × Nat) HZ (λ t=>nb t.fst) (λ t=>(nb t.fst).length) (λ t=>nb t.snd) (λ t=>(nb t.snd).length) (Nat) Pw (λ t=>nb t) (λ t=>(nb t).length) (Nat) oN (λ t=>nb t) (λ t=>(nb t).length) (Int) nZ (λ t=>t) (Nat) DK (λ t=>nb t) (λ t=>(nb t).length) (Nat) rRI (λ t=>nb t) (λ t=>(nb t).length)
theorem aL7:CfOk prog aUI.c:=gk <| aA Kz <| aA sN <| aA FD <| aA Of <| aA tX <| aA BC <| aA G7 <| aA aGR <| aK
theorem aFA:CallOk prog 96 MV:=by
 refine i4 aL7 Tryz.func96 ?_;intro args t ht;unfold MV mF at ht;simp only at ht;split at ht
 ·rename_i l n;obtain ⟨h1,h2⟩:=cC ht;rw [aX] at h1;obtain ⟨a,rfl,rfl,hx,ex⟩:=oY h1.1;have ha:=y6 h1.2;rw [ex] at ha h2;subst h2;refine (aUG ..).trans ?_;show _=some (eNB (yZ a));unfold yZ;have la:=rL ha;have h3:=iO (x:=aJ) (y:=3) (by rw [TO]; omega) (by decide);have hd:=Ch (x:=aJ+3) (y:=8) (cK (dA (k:=32) (by decide +kernel)) (by decide)) (by decide) (by decide);generalize hq:(aJ+3) / 8=q at *;have hl:(nb q).length <= 1048576:=cK (dA (k:=32) (by rw [<-hq]; decide +kernel)) (by decide);have hp:=Ji (a:=a) (y:=q) ha hl;have hz:=eM (a ^ q);generalize a ^ q%aJ=z at *;generalize aJ+3=w at *;have m1:=bJ hz hz;have l1:=rL (eM (z*z));have c1:=mJ (x:=z*z%aJ) (y:=a) (by omega) (by omega);have a1:=zX hz;have m2:=bJ hz Xi;have hz2:=eM (z*iN);generalize z*iN%aJ=z2 at *;have a2:=zX hz2;have m3:=bJ hz2 hz2;have l3:=rL (eM (z2*z2));have c3:=mJ (x:=z2*z2%aJ) (y:=a) (by omega) (by omega);rw [<-eN3] at h3;rw [<-eN8] at hd;simp only [eN] at h3 hd hp m1 c1 a1 m2 a2 m3 c3;rw [E4,aC,h3,aC,hd,aC,hp,aC,m1,aC,c1,aC,j7.2 (RZ (z*z%aJ) a)];by_cases g:z*z%aJ=a
  ·rw [aE g,aB,a1,aT g]; rfl
  ·rw [aH g,aD,OL,aC,m2,aC,a2,aC,m3,aC,c3,aC,j7.2 (RZ (z2*z2%aJ) a),aW g];rfl
 ·cases ht
theorem Lh {a:Nat} (h:a < aJ):IA [eN a]=some (yZ a):=by
 have l:=rL h;simp only [IA,MV,mF,eN];rw [nP (by omega),fY,y7 h]; rfl
def Bk (a:Nat):Nat:=a ^ (aJ - 2)%aJ
theorem aFB (x:Nat) (b:Bool):some (AV.tup [CV.s (SV.dat (TRow.ints i64 (nb x)) (nb x).length 1),CV.s (SV.pl (Pl.bool b))])=some (eNB (x,b)):=rfl
def aFC (R1 R2:Nat × Bool):Nat × Bool:=cond R1.2 (R1.1,true) (R2.1,false)
def aL8 (u v w:Nat):Nat × Bool :=
 if u=0 then (0,true) else if v=0 then (0,false) else aFC (yZ (u*w%aJ)) (yZ (iN*(u*w%aJ)%aJ))
theorem aFD {w k:Nat} {R1 R2:Nat × Bool} (m2:oN [eN iN,eN w]=some k) (r2:IA [eN k]=some R2) :
  (bif R1.2 then some (AV.tup [CV.s (SV.dat (TRow.ints i64 (nb R1.1)) (nb R1.1).length (1:Nat)),CV.s (SV.pl (Pl.bool true))])
      else
       (rRI []).bind λ (eU:Nat)=>
        (oN [AV.s (SV.dat (TRow.ints i64 (nb eU)) (nb eU).length (1:Nat)),AV.s (SV.dat (TRow.ints i64 (nb w)) (nb w).length (1:Nat))]).bind λ (t:Nat)=>
         (IA [AV.s (SV.dat (TRow.ints i64 (nb t)) (nb t).length (1:Nat))]).bind λ (t:Nat × Bool)=>
          some (AV.tup [CV.s (SV.dat (TRow.ints i64 (nb t.1)) (nb t.1).length (1:Nat)),CV.s (SV.pl (Pl.bool false))]))=some (eNB (aFC R1 R2)):=by
 obtain ⟨a,b⟩:=R1;simp only [eN] at m2 r2;cases b
 ·rw [aD,OL,aC,m2,aC,r2,aC];exact aFB R2.1 false
 ·exact aFB a true
theorem aL9 (R1 R2:Nat × Bool):(if R1.2=true then (R1.1,true) else (R2.1,false))=aFC R1 R2:=by
 obtain ⟨a,b⟩:=R1;cases b
 ·exact aW (λ e=>Bool.noConfusion e)
 ·exact aT rfl
theorem Xj (u v:Nat):Bi u v=aL8 u v (Bk v):=by
 unfold Bi aL8;rw [aL9];rfl
theorem aMa (v:Nat):Bk v < aJ:=eM _
theorem Li {v:Nat} (hv:v < aJ):Ku [eN v]=some (Bk v):=Ry hv
abbrev aUJ:Cg:=aPj (Nat) Ku (λ t=>nb t) (λ t=>(nb t).length) (Nat) oN (λ t=>nb t) (λ t=>(nb t).length) (Nat × Bool) IA (λ t=>nb t.fst) (λ t=>(nb t.fst).length) (λ t=>t.2) (Nat) rRI (λ t=>nb t) (λ t=>(nb t).length)
theorem aMb:CfOk prog aUJ.c:=gk <| aA Og <| aA tX <| aA aFA <| aA aGR <| aK
theorem Xk:CallOk prog 49 aBQ:=by
 refine i4 aMb Tryz.func49 ?_;intro args t ht;obtain ⟨u,v,rfl,hx,hy,hc,rfl⟩:=nQ (F:=Bi) (C:=λ a b=>bP a && bP b) ht;rw [aX] at hc;have hu:=y6 hc.1;have hv:=y6 hc.2;refine (aUH ..).trans ?_;show _=some (eNB (Bi u v));rw [Xj];have i1:=Li hv;have hi:=aMa v;generalize Bk v=z at *;clear ht;unfold aL8;by_cases c1:u=0
 ·have:=(tK u).2 c1;rw [aE (by omega),aB,aT c1]; rfl
 have n1:¬ (nb u).length=0:=λ h=>c1 ((tK u).1 h);by_cases c2:v=0
 ·have:=(tK v).2 c2;rw [aH (by omega),aD,aE (by omega),aB,aW c1,aT c2]; rfl
 have n2:¬ (nb v).length=0:=λ h=>c2 ((tK v).1 h);have m1:=bJ hu hi;have hw:=eM (u*z);generalize u*z%aJ=w at *;have r1:=Lh hw;have m2:=bJ Xi hw;have r2:=Lh (eM (iN*w));have d1:decide (((nb u).length:Int)=0)=false:=aH (by omega);have d2:decide (((nb v).length:Int)=0)=false:=aH (by omega);simp only [eN] at i1 m1 r1 m2 r2;generalize yZ (iN*w%aJ)=R2 at *;generalize yZ w=R1 at *;rw [d1,aD,d2,aD,i1,aC,m1,aC,r1,aC,aW c1,aW c2];exact aFD m2 r2
theorem Ra {u v:Nat} (h:u < aJ) (h2:v < aJ):IB [eN u,eN v]=some (Bi u v):=by
 have l1:=rL h;have l2:=rL h2;simp only [IB,aBQ];exact xS Bi (λ a b=>bP a && bP b) (by omega) (by omega) (by rw [y7 h,y7 h2]; rfl)
set_option maxRecDepth 4000
theorem aUK {k:Nat} (h:k < aJ):oW k=QU k:=by
 rw [oW,QU];cases hb:Nat.beq (k%2) 1
 ·have h0:¬ k%2=1:=λ h=>by rw [h] at hb; cases hb
  rw [aD,aW h0]
 ·have h1:=aS hb;rw [aB,aT h1];simp only [aJ] at *;omega
theorem FV {z:Fe} (hz:cN z) {k:Nat} (hk:k < aJ) (h:cg (fv z:Int) (k:Int) ∨ cg (fv z:Int) (-(k:Int))):fv (vU z)%aJ=oW k:=by
 have e:fv (fe k)=k:=B6 (fC hk (by decide));have:=aDg hz (cV k) M2 (by rw [e]; exact h);have h2:=HD (cV k) M2;rw [e,aV hk] at h2;rw [aUK hk,<-h2];have e2:fv (fe k)%aJ=k:=by rw [e,aV hk]
 rw [e2] at this;exact this
theorem aPk:(fv iF:Int)=iZ:=by decide +kernel
theorem aMc:8*lT 253 252+4=aJ - 1:=by decide +kernel
theorem aYp:8*lT 253 252+3=aJ - 2:=by decide +kernel
theorem aYq:(aJ+3) / 8=lT 253 252+1:=by decide +kernel
theorem bAf:lT 253 252+1=2*(2*1809251394333065553493296640760748560207343510400633813116524750123642650623+1):=by decide +kernel
theorem Rb {e:Nat} (h:e=aJ - 2) (v:Nat):Bk v=v ^ e%aJ:=by rw [h]; rfl
theorem aMd {e:Nat} (h:e=aJ - 2) (v:Nat):cg (Bk v:Int) ((v:Int) ^ e):=by
 have:=mH.2 (show (v ^ e%aJ)%aJ=v ^ e%aJ from sL _ _);rw [J8] at this;rwa [Rb h]
def Rc (a z:Nat):Nat × Bool:=if z*z%aJ=a then (oW z,true) else (oW (z*iN%aJ),decide (z*iN%aJ*(z*iN%aJ)%aJ=a))
theorem Xl {q:Nat} (h:(aJ+3) / 8=q) (a:Nat):yZ a=Rc a (a ^ q%aJ):=by rw [<-h]; rfl
theorem Xm (a q:Nat):cg ((a ^ q%aJ:Nat):Int) ((a:Int) ^ q):=by
 have:=mH.2 (show (a ^ q%aJ)%aJ=a ^ q%aJ from sL _ _);rwa [J8] at this
theorem EG (a b:Nat):cg ((a*b%aJ:Nat):Int) ((a:Int)*(b:Int)):=by
 have:=mH.2 (show (a*b%aJ)%aJ=a*b%aJ from sL _ _);rwa [oA] at this
theorem bAg:((iN:Nat):Int)=iZ:=rfl
theorem Rd {a z:Nat} (ha:a < aJ) {Z:Int} (hz:cg (z:Int) Z) :
  (cg (Z*Z) (a:Int)->Rc a z=(oW z,true)) /\
  (¬ cg (Z*Z) (a:Int)->(cg (Z*Z) (-(a:Int))->Rc a z=(oW (z*iN%aJ),true)) /\ (¬ cg (Z*Z) (-(a:Int))->Rc a z=(oW (z*iN%aJ),false))):=by
 have h1:=aGU ha hz;have hz2:cg ((z*iN%aJ:Nat):Int) (Z*iZ):=by
  have:=EG z iN;rw [bAg] at this;exact this.trans (hz.mul (cg.refl _))
 have h2:=aGU ha hz2;unfold Rc;generalize z*iN%aJ=z2 at *;have e:cg (Z*iZ*(Z*iZ)) (a:Int) ↔ cg (Z*Z) (-(a:Int)):=by
  have hs:=aNb Z;constructor
  ·intro h;have:=(hs.symm.trans h).neg;rwa [Ap] at this
  ·intro h;have:=hs.trans h.neg;rwa [Ap] at this
 refine ⟨λ h=>aT (h1.2 h),λ h=>⟨λ g=>?_,λ g=>?_⟩⟩
 ·rw [aW λ x=>h (h1.1 x),aE (h2.2 (e.2 g))]
 ·rw [aW λ x=>h (h1.1 x),aH λ x=>g (e.1 (h2.1 x))]
theorem UW {c:Int} (h:c%57896044618658097711785492504343953926634992332820282019728792003956564819949 ≠ 0):¬ cg c 0:=by
 rintro ⟨k,hk⟩;omega
theorem aFE (a:Nat) (R2:Nat × Bool):aFC (a,true) R2=(a,true):=rfl
theorem aFF (a:Nat) (R2:Nat × Bool):aFC (a,false) R2=(R2.1,false):=rfl
theorem aPl:oW 0=0:=by decide
theorem aFG {a b:Int} (h:cg a 0):cg (a*b) 0:=by
 have:=h.mul (cg.refl b);rwa [yN] at this
theorem nY {A:Bool} {p:Prop} (h:A=true ↔ p):(p->A=true) /\ (¬ p->A=false):=by
 refine ⟨h.2,λ g=>?_⟩;cases A
 ·rfl
 ·exact absurd (h.1 rfl) g
theorem aFH {x y:Fe} (hx:cN x) (hy:cN y) (lx:fv x < aJ) (ly:fv y < aJ) :
  fv (mE x y).1%aJ=(Bi (fv x) (fv y)).1 /\ (mE x y).2=(Bi (fv x) (fv y)).2:=by
 have c3:cg (fv (aO (aO y y) y):Int) ((fv y:Int)*fv y*fv y):=(gK _ y).trans ((gK y y).mul (cg.refl _));have c7:cg (fv (aO x (aO (aO (aO (aO y y) y) (aO (aO y y) y)) y)):Int) ((fv x:Int)*((fv y:Int)*fv y*fv y*((fv y:Int)*fv y*fv y)*fv y)) :=
  (gK x _).trans ((cg.refl _).mul ((gK _ y).trans (((gK _ _).trans (c3.mul c3)).mul (cg.refl _))))
 have cr:cg (fv (dO x y):Int) ((fv x:Int)*((fv y:Int)*fv y*fv y)*((fv x:Int)*((fv y:Int)*fv y*fv y*((fv y:Int)*fv y*fv y)*fv y)) ^ lT 253 252) :=
  (gK _ _).trans (((gK x _).trans ((cg.refl _).mul c3)).mul ((V7 _ 253 252).trans (c7.pow _)))
 have hR:cN (dO x y):=Nh hx hy;rw [Xj];unfold mE;generalize dO x y=R at *;clear c3 c7;have cc:cg (fv (aO y (aO R R)):Int) ((fv y:Int)*((fv R:Int)*fv R)):=(gK y _).trans ((cg.refl _).mul (gK R R));have cn:=aTg hx;have ci:cg (fv (aO (cJ f0 x) iF):Int) (-iZ*(fv x:Int)):=by
  have:=(gK (cJ f0 x) iF).trans (cn.mul (cg.refl _));rw [aPk,rD,Int.mul_comm,<-rD] at this;exact this
 have hA:kJ (aO y (aO R R)) x=true ↔ cg ((fv y:Int)*((fv R:Int)*fv R)) (1*(fv x:Int)):=by
  rw [rE];exact Dg.trans ⟨λ h=>cc.symm.trans h,λ h=>cc.trans h⟩
 have hB:kJ (aO y (aO R R)) (cJ f0 x)=true ↔ cg ((fv y:Int)*((fv R:Int)*fv R)) (-1*(fv x:Int)):=by
  rw [rD,rE];exact Dg.trans ⟨λ h=>cc.symm.trans (h.trans cn),λ h=>cc.trans (h.trans cn.symm)⟩
 have hD:kJ (aO y (aO R R)) (aO (cJ f0 x) iF)=true ↔ cg ((fv y:Int)*((fv R:Int)*fv R)) (-iZ*(fv x:Int)) :=
  Dg.trans ⟨λ h=>cc.symm.trans (h.trans ci),λ h=>cc.trans (h.trans ci.symm)⟩
 have cri:cg (fv (aO R iF):Int) ((fv R:Int)*iZ):=by
  have:=gK R iF;rwa [aPk] at this
 have hRi:cN (aO R iF):=aL hR wB;generalize kJ (aO y (aO R R)) x=A at *;generalize kJ (aO y (aO R R)) (cJ f0 x)=B at *;generalize kJ (aO y (aO R R)) (aO (cJ f0 x) iF)=D at *;generalize aO R iF=Q at *;clear cc cn ci;have zero:cg (fv R:Int) 0->fv (vU (cond (B || D) Q R))%aJ=0:=by
  intro h;have k0:((0:Nat):Int)=0:=rfl;cases (B || D)
  ·rw [aD,FV hR (k:=0) (by decide) (.inl h),aPl]
  ·rw [aB,FV hRi (k:=0) (by decide) (.inl (cri.trans (aFG h))),aPl]
 unfold aL8;by_cases hu:fv x=0
 ·rw [aT hu];have hU:(fv x:Int)=0:=by omega
  rw [hU] at cr;have z0:cg (fv R:Int) 0:=by
   rw [yN,yN] at cr; exact cr
  have:A=true:=hA.2 (by
   rw [hU,PE];have:=aFG (b:=(fv R:Int)) z0;have:=(cg.refl (fv y:Int)).mul this;rwa [PE] at this)
  rw [this,Fp];exact ⟨zero z0,rfl⟩
 rw [aW hu];have hU:¬ cg (fv x:Int) 0:=λ h=>hu (by have:=pG.1 h; rwa [aV lx] at this);by_cases hv:fv y=0
 ·rw [aT hv];have hV:(fv y:Int)=0:=by omega
  have z0:cg (fv R:Int) 0:=by
   rw [hV,yN,yN,PE,yN] at cr; exact cr
  have ne:∀ c:Int,¬ cg c 0->¬ cg ((fv y:Int)*((fv R:Int)*fv R)) (c*(fv x:Int)):=λ c hc h=>by
   rw [hV,yN] at h;rcases mW h.symm with h | h
   ·exact hc h
   ·exact hU h
  have a0:=(nY hA).2 (ne 1 (UW (by decide)));have b0:=(nY hB).2 (ne (-1) (UW (by decide)));refine ⟨zero z0,?_⟩;rw [a0,b0]; rfl
 rw [aW hv];have hV:¬ cg (fv y:Int) 0:=λ h=>hv (by have:=pG.1 h; rwa [aV ly] at this);rw [Xl aYq,Xl aYq];have hw:cg ((fv x*Bk (fv y)%aJ:Nat):Int) ((fv x:Int)*(fv y:Int) ^ (8*lT 253 252+3)) :=
  (EG _ _).trans ((cg.refl _).mul (aMd aYp _))
 have hwl:=eM (fv x*Bk (fv y));generalize fv x*Bk (fv y)%aJ=w at *;have hz:=Xm w (lT 253 252+1);have hzl:=eM (w ^ (lT 253 252+1));have hw2:cg ((iN*w%aJ:Nat):Int) (iZ*(w:Int)):=EG iN w;have hw2l:=eM (iN*w);generalize iN*w%aJ=w2 at *;have hz2:=Xm w2 (lT 253 252+1);have hz2l:=eM (w2 ^ (lT 253 252+1));generalize w ^ (lT 253 252+1)%aJ=z at *;generalize w2 ^ (lT 253 252+1)%aJ=z2 at *;have same:=aAz _ aMc hV cr hw hz;have vw:cg ((fv y:Int)*(w:Int)) (fv x:Int):=by
  have h1:=(cg.refl (fv y:Int)).mul hw;have h2:=A6 hV _ aMc;have e:(fv y:Int)*((fv x:Int)*(fv y:Int) ^ (8*lT 253 252+3))=(fv x:Int)*(fv y:Int) ^ (8*lT 253 252+4):=by
   rw [show 8*lT 253 252+4=8*lT 253 252+3+1 from rfl,vF];generalize (fv y:Int) ^ (8*lT 253 252+3)=K;grind
  rw [e] at h1;have h3:=h1.trans ((cg.refl (fv x:Int)).mul h2);rwa [Int.mul_one] at h3
 have hw0:¬ cg (w:Int) 0:=λ h=>hU (by
  have:=(cg.refl (fv y:Int)).mul h;rw [PE] at this;exact vw.symm.trans this)
 have turn:=aAB bAf hz hw2 hz2;have aTS:=aAA _ aMc hw0 (same.trans hz);have rz:=Rd hwl same.symm;have rz2:=Rd hw2l (Z:=-(fv R:Int)) (turn.trans same.symm.neg);rw [rD,Int.mul_neg,Ap] at rz2;clear cr hw hz hz2;generalize hZ:(fv R:Int)=Z at *;have cz:cg ((z*iN%aJ:Nat):Int) (Z*iZ):=(EG z iN).trans (same.symm.mul (cg.refl _));have cz2:cg ((z2*iN%aJ:Nat):Int) (-(Z*iZ)):=by
  have:=(EG z2 iN).trans ((turn.trans same.symm.neg).mul (cg.refl _));rw [rD] at this;exact this
 have lz:=eM (z*iN);have lz2:=eM (z2*iN);obtain ⟨zi,hzi⟩:∃ k,k=z*iN%aJ:=⟨_,rfl⟩;obtain ⟨zi2,hzi2⟩:∃ k,k=z2*iN%aJ:=⟨_,rfl⟩;rw [<-hzi] at cz lz rz;rw [<-hzi2] at cz2 lz2 rz2;clear hzi hzi2
 -- of the aTS,one alone
 have up:∀ c:Int,cg (Z*Z) (c*(w:Int))->cg ((fv y:Int)*(Z*Z)) (c*(fv x:Int)):=λ c h=>by
  have h1:=(cg.refl (fv y:Int)).mul h;rw [show (fv y:Int)*(c*(w:Int))=c*((fv y:Int)*(w:Int)) by rw [<-Int.mul_assoc,Int.mul_comm (fv y:Int) c,Int.mul_assoc]] at h1;exact h1.trans ((cg.refl c).mul vw)
 have no:∀ c d:Int,cg (Z*Z) (c*(w:Int))->¬ cg (c - d) 0->¬ cg ((fv y:Int)*(Z*Z)) (d*(fv x:Int)):=λ c d h hc g=>hc (aGT hU ((up c h).symm.trans g));have nw:∀ c d:Int,cg (Z*Z) (c*(w:Int))->¬ cg (c - d) 0->¬ cg (Z*Z) (d*(w:Int)):=λ c d h hc g=>hc (aGT hw0 (h.symm.trans g));have w1:(1:Int)*(w:Int)=w:=rE _;have wm:(-1:Int)*(w:Int)=-(w:Int):=by rw [rD,rE]
 rcases aTS with h | h | h | h
 ·have h':cg (Z*Z) (1*(w:Int)):=by rwa [w1]
  have a1:=hA.2 (up 1 h');have b0:=(nY hB).2 (no 1 (-1) h' (UW (by decide)));have d0:=(nY hD).2 (no 1 (-iZ) h' (UW (by decide +kernel)));rw [rz.1 h,aFE,a1,b0,d0];exact ⟨FV hR hzl (.inl (by rw [hZ]; exact same)),rfl⟩
 ·have h':cg (Z*Z) (-1*(w:Int)):=by rwa [wm]
  have b1:=hB.2 (up (-1) h');have n1:=nw (-1) 1 h' (UW (by decide));rw [w1] at n1;rw [(rz.2 n1).1 h,aFE,b1,Fp,Bool.or_true];exact ⟨FV hRi lz (.inl (cri.trans cz.symm)),rfl⟩
 ·have a0:=(nY hA).2 (no iZ 1 h (UW (by decide +kernel)));have b0:=(nY hB).2 (no iZ (-1) h (UW (by decide +kernel)));have d0:=(nY hD).2 (no iZ (-iZ) h (UW (by decide +kernel)));have n1:=nw iZ 1 h (UW (by decide +kernel));have n2:=nw iZ (-1) h (UW (by decide +kernel));rw [w1] at n1;rw [wm] at n2;rw [(rz.2 n1).2 n2,aFF,rz2.1 (h.trans hw2.symm),a0,b0,d0];refine ⟨FV hR hz2l (.inr ?_),rfl⟩;rw [hZ];have:=(turn.trans same.symm.neg).neg;rw [Ap] at this;exact this.symm
 ·have h':cg (Z*Z) (-iZ*(w:Int)):=by rwa [rD]
  have a0:=(nY hA).2 (no (-iZ) 1 h' (UW (by decide +kernel)));have b0:=(nY hB).2 (no (-iZ) (-1) h' (UW (by decide +kernel)));have d1:=hD.2 (up (-iZ) h');have n1:=nw (-iZ) 1 h' (UW (by decide +kernel));have n2:=nw (-iZ) (-1) h' (UW (by decide +kernel));have n3:=nw (-iZ) iZ h' (UW (by decide +kernel));rw [w1] at n1;rw [wm] at n2;have n3':¬ cg (Z*Z) (w2:Int):=λ g=>n3 (g.trans hw2);rw [(rz.2 n1).2 n2,aFF,(rz2.2 n3').1 (h.trans hw2.symm.neg),a0,b0,d1];refine ⟨FV hRi lz2 (.inr ?_),rfl⟩;have:=cz2.symm.neg;rw [Ap] at this;exact cri.trans this
set_option maxRecDepth 4000
theorem bAh:lT 235 255=aJ - 2:=by decide +kernel
end
end Go.Eng
