import Derived.Test.YtmicbaijcbkmjaaGreatZF3
namespace Go.Eng
open Go.IntKind (u64 i64 u8)
noncomputable section
open Go Go.Proofs
set_option linter.all false
section
variable (T0:Type) (R0:FA T0) (aG:T0->Int) (T1:Type) (R1:FA T1) (aN:T1->List Int) (bI:T1->Nat) (T2:Type) (R2:FA T2) (bC:T2->Int)
def QR:Cg:=⟨⟨dE [(100,⟨R0,λ t=>AV.int .i64 (aG t)⟩),(40,⟨R1,λ t=>AV.s (dI (aN t) (bI t))⟩),(54,⟨R2,λ t=>AV.int .i64 (bC t)⟩)],[],dR⟩,[(4,[0,1,5,6],[5])]⟩
def Ia (x0:List Int) (n0:Nat) (x1:List Int) (n1:Nat) (x5:List Int) (n5:Nat) (v6:Int):St:={ tm:=[(0,.s (dI x0 n0)),(1,.s (dI x1 n1)),(5,.s (dI x5 n5)),(6,.int .i64 v6)],hp:=[],nx:=0,sz:=26 }
def TS:Code:=cM (bN [1,1,0,1,2] (bD Tryz.f95))
def TT (fu:Nat):=lP prog (QR T0 R0 aG T1 R1 aN bI T2 R2 bC) fu [1,1,0,1,2] (bD Tryz.f95) (fT prog Tryz.f95)
abbrev aSw (fu:Nat) (x0:List Int) (n0:Nat) (x1:List Int) (n1:Nat) (x5:List Int) (n5:Nat) (v6:Int):=eS prog (QR T0 R0 aG T1 R1 aN bI T2 R2 bC) fu TS (TT T0 R0 aG T1 R1 aN bI T2 R2 bC fu ) fu (some (Ia x0 n0 x1 n1 x5 n5 v6))
theorem aSx (fu:Nat) (x y:Nat):bB prog Tryz.f95 (QR T0 R0 aG T1 R1 aN bI T2 R2 bC) fu [eN x,eN y]=(R0 [.s (dI (nb y) (nb y).length)]).bind λ t=>aSw T0 R0 aG T1 R1 aN bI T2 R2 bC fu (nb x) (nb x).length (nb y) (nb y).length [1] 1 (i64.wrap (aG t - 1)):=by kernel_rfl
def QS (x5:List Int) (n5:Nat):St:={ tm:=[(5,.s (dI x5 n5))],hp:=[],nx:=0,sz:=26 }
theorem aCW {β:Type} (fu:Nat) (G:FG β) (H:FH β) (x0:List Int) (n0:Nat) (x1:List Int) (n1:Nat) (x5:List Int) (n5:Nat) (v6:Int):fI prog (QR T0 R0 aG T1 R1 aN bI T2 R2 bC) fu TS G H (Ia x0 n0 x1 n1 x5 n5 v6)=bif decide (0 <= v6) then (R1 [.s (dI x5 n5),.s (dI x5 n5)]).bind λ t=>(R2 [.s (dI x1 n1),.int .i64 v6]).bind λ dH=>bif decide (bC dH=1) then (R1 [.s (dI (aN t) (bI t)),.s (dI x0 n0)]).bind λ t=>G (some (Ia x0 n0 x1 n1 (aN t) (bI t) (i64.wrap (v6 - 1)))) else G (some (Ia x0 n0 x1 n1 (aN t) (bI t) (i64.wrap (v6 - 1)))) else H (Ex.exit 0) (some (QS x5 n5)):=by kernel_rfl
theorem aCX (fu:Nat) (x5:List Int) (n5:Nat):TT T0 R0 aG T1 R1 aN bI T2 R2 bC fu  (Ex.exit 0) (QS x5 n5)=some (AV.s (dI x5 n5)):=by kernel_rfl
end
section
variable (T0:Type) (R0:FA T0) (aG:T0->List Int) (aM:T0->Nat) (T1:Type) (R1:FA T1) (aN:T1->List Int) (bI:T1->Nat) (T2:Type) (R2:FA T2) (bC:T2->List Int) (bW:T2->Nat)
def aOy:Cg:=⟨⟨dE [(45,⟨R0,λ t=>AV.s (dI (aG t) (aM t))⟩),(55,⟨R1,λ t=>AV.s (dI (aN t) (bI t))⟩),(95,⟨R2,λ t=>AV.s (dI (bC t) (bW t))⟩)],[],dR⟩,[]⟩
theorem aSy (fu:Nat) (x:Nat):bB prog Tryz.f43 (aOy T0 R0 aG aM T1 R1 aN bI T2 R2 bC bW) fu [eN x]=(R0 []).bind λ t=>(R1 [.s (dI (aG t) (aM t)),.s (dI [2] 1)]).bind λ t=>(R2 [.s (dI (nb x) (nb x).length),.s (dI (aN t) (bI t))]).bind λ t=>some (AV.s (dI (bC t) (bW t))):=by kernel_rfl
end
section
variable (T0:Type) (R0:FA T0) (aG:T0->List Int) (aM:T0->Nat) (T1:Type) (R1:FA T1) (aN:T1->List Int) (bI:T1->Nat) (T2:Type) (R2:FA T2) (bC:T2->List Int) (bW:T2->Nat) (dW:T2->List Int) (eT:T2->Nat) (T3:Type) (R3:FA T3) (bO:T3->List Int) (cI:T3->Nat) (T4:Type) (R4:FA T4) (eV:T4->List Int) (jS:T4->Nat)
def aOz:Cg:=⟨⟨dE [(45,⟨R0,λ t=>AV.s (dI (aG t) (aM t))⟩),(55,⟨R1,λ t=>AV.s (dI (aN t) (bI t))⟩),(26,⟨R2,λ t=>AV.tup [.s (dI (bC t) (bW t)),.s (dI (dW t) (eT t))]⟩),(95,⟨R3,λ t=>AV.s (dI (bO t) (cI t))⟩),(50,⟨R4,λ t=>AV.s (dI (eV t) (jS t))⟩)],[],dR⟩,[]⟩
theorem aSz (fu:Nat):bB prog Tryz.f97 (aOz T0 R0 aG aM T1 R1 aN bI T2 R2 bC bW dW eT T3 R3 bO cI T4 R4 eV jS) fu []=(R0 []).bind λ t=>(R1 [.s (dI (aG t) (aM t)),.s (dI [1] 1)]).bind λ t=>(R2 [.s (dI (aN t) (bI t)),.s (dI [4] 1)]).bind λ t=>(R3 [.s (dI [2] 1),.s (dI (bC t) (bW t))]).bind λ t=>(R4 [.s (dI (bO t) (cI t))]).bind λ t=>some (AV.s (dI (eV t) (jS t))):=by kernel_rfl
end
set_option maxRecDepth 4000
theorem eN1:AV.s (SV.dat (TRow.ints i64 [(1:Int)]) 1 1)=eN 1:=rfl
theorem eN2:AV.s (SV.dat (TRow.ints i64 [(2:Int)]) 1 1)=eN 2:=rfl
theorem aXO (a y i:Nat):(a ^ (y / 2 ^ (i+1))%aJ)*(a ^ (y / 2 ^ (i+1))%aJ)%aJ=a ^ (2*(y / 2 ^ (i+1)))%aJ:=by
 rw [<-pU,<-dM,Nat.two_mul]
theorem aCY (y i:Nat):y / 2 ^ i=2*(y / 2 ^ (i+1))+y / 2 ^ i%2:=by
 rw [bM,<-gR];omega
abbrev aCZ:Cg:=QR (Nat) A4 (λ t=>↑t) (Nat) oR (λ t=>nb t) (λ t=>(nb t).length) (Nat) pG (λ t=>↑t)
theorem aJw:CfOk prog aCZ.c:=gk <| aA Lq <| aA uC <| aA BM <| aK
theorem aJx (a:Nat) (ha:a < aJ) (y:Nat) (hy:(nb y).length <= 1048576) (fu:Nat):∀ (i n:Nat),i < n->i <= 8388608 ->
  eS prog aCZ fu TS (TT _ A4 (λ t=>(t:Int)) _ oR (λ t=>nb t) (λ t=>(nb t).length) _ pG (λ t=>(t:Int)) fu) n
   (some (Ia (nb a) (nb a).length (nb y) (nb y).length (nb (a ^ (y / 2 ^ i)%aJ)) (nb (a ^ (y / 2 ^ i)%aJ)).length ((i:Int) - 1)))=some (eN (a ^ y%aJ)):=by
 intro i
 induction i with
 | zero=>
  intro n hn _;obtain ⟨n,rfl⟩:=aP (by omega:n ≠ 0);rw [aF,aCW,aH (by omega),aD,aR,aCX,jL,uS];rfl
 | succ i ih=>
  intro n hn hi;obtain ⟨n,rfl⟩:=aP (by omega:n ≠ 0);have h:=ih n (by omega) (by omega);have m1:=bJ (eM (a ^ (y / 2 ^ (i+1)))) (eM (a ^ (y / 2 ^ (i+1))));rw [aXO] at m1;have m2:=bJ (eM (a ^ (2*(y / 2 ^ (i+1))))) ha;have hb:=tM (x:=y) (i:=(i:Int)) hy (by omega) (by omega);have hbit:mH y (i:Int)=y / 2 ^ i%2:=by
   unfold mH;rw [aH (by omega),aD,bE]
  rw [hbit] at hb;simp only [eN] at m1 m2 hb;rw [aF,aCW,show (((i+1:Nat):Int) - 1)=(i:Int) by omega,aE (by omega),aB,m1,aC,hb,aC,bY (by omega) (by omega)];have hh:=aCY y i;rcases (by omega:y / 2 ^ i%2=0 ∨ y / 2 ^ i%2=1) with c | c
  ·rw [c,aH (by decide),aD];rw [c,fH] at hh;rw [<-hh];exact h
  ·rw [c,aE (by rfl),aB,m2,aC];have e:a ^ (2*(y / 2 ^ (i+1)))%aJ*a%aJ=a ^ (y / 2 ^ i)%aJ:=by
    rw [Nat.mod_mul_mod,<-bM];rw [c] at hh;exact dQ (λ k=>a ^ k%aJ) hh.symm
   rw [e];exact h
theorem Mq:CallOk prog 95 aFc:=by
 refine aZ (fu:=λ args=>match args with | [_,.c (.s (.dat _ n _))]=>8*n+2 | _=>0) aJw Tryz.func95 ?_;intro args t ht;obtain ⟨a,y,rfl,hx,hy,hc,rfl⟩:=nW (F:=λ a e=>a ^ e%aJ) (C:=λ a _=>bP a) ht;have ha:=y5 hc;refine (aSx ..).trans ?_;have hl:=Jn (x:=y) hy;simp only [eN] at hl;have hlt:=(xK y).1;have hb:bl y <= 8*(nb y).length:=IM (by rw [<-aS9]; exact rJ y);rw [hl,aC,bY (by omega) (by omega)];have h:=aJx a ha y hy (8*(nb y).length+2) (bl y) (8*(nb y).length+2) (by omega) (by omega);rw [jJ hlt,jL,show 1%aJ=1 by decide] at h;exact h
theorem Ib {a y:Nat} (ha:a < aJ) (hy:(nb y).length <= 1048576):Q8 [eN a,eN y]=some (a ^ y%aJ):=by
 have l:=rL ha;simp only [Q8,aFc];exact yF (λ a e=>a ^ e%aJ) (λ a _=>bP a) (by omega) hy (y6 ha)
abbrev aSA:Cg:=aOy (Nat) rRP (λ t=>nb t) (λ t=>(nb t).length) (Nat) pF (λ t=>nb t) (λ t=>(nb t).length) (Nat) Q8 (λ t=>nb t) (λ t=>(nb t).length)
theorem aJy:CfOk prog aSA.c:=gk <| aA LJ <| aA wT <| aA Mq <| aK
theorem Mr:CallOk prog 43 XM:=by
 refine i7 aJy Tryz.func43 ?_;intro args t ht;unfold XM mJ at ht;simp only at ht;split at ht
 ·rename_i a n;obtain ⟨h1,h2⟩:=cC ht;rw [aX] at h1;obtain ⟨x,rfl,rfl,hx,ex⟩:=o8 h1.1;have h3:=y5 h1.2;rw [ex] at h3 h2;subst h2;refine (aSy ..).trans ?_;have hs:=o9 (x:=aJ) (y:=2) (by rw [Tl]; omega) (by decide) (by decide);have hl:(nb (aJ - 2)).length <= 1048576:=cK (dA (k:=32) (by decide +kernel)) (by decide);have hp:=Ib (a:=x) (y:=aJ - 2) h3 hl;rw [<-eN2] at hs;simp only [eN] at hs hp;rw [E6,aC,hs,aC,hp];rfl
 ·cases ht
theorem QT {x:Nat} (h:x < aJ):LT [eN x]=some (x ^ (aJ - 2)%aJ):=by
 have l:=rL h;simp only [LT,XM,mJ,eN];rw [nV (by omega),fY,y6 h]; rfl
abbrev aSB:Cg:=aOz (Nat) rRP (λ t=>nb t) (λ t=>(nb t).length) (Nat) pF (λ t=>nb t) (λ t=>(nb t).length) (Nat × Nat) Gz (λ t=>nb t.fst) (λ t=>(nb t.fst).length) (λ t=>nb t.snd) (λ t=>(nb t.snd).length) (Nat) Q8 (λ t=>nb t) (λ t=>(nb t).length) (Nat) Dp (λ t=>nb t) (λ t=>(nb t).length)
theorem aJz:CfOk prog aSB.c:=gk <| aA LJ <| aA wT <| aA Fa <| aA Mq <| aA HJ <| aK
theorem aSC (q:Nat) (hq:(aJ - 1) / 4=q):oY (2 ^ q%aJ)=iN:=by
 rw [<-Qb 2 aJ 255 q (by rw [<-hq]; decide +kernel),<-hq];decide +kernel
theorem eN4:AV.s (SV.dat (TRow.ints i64 [(4:Int)]) 1 1)=eN 4:=rfl
theorem aC0:CallOk prog 97 sRI:=by
 refine i7 aJz Tryz.func97 ?_;intro args t ht;unfold sRI at ht;simp only at ht;split at ht
 ·cases ht;refine (aSz ..).trans ?_;have hs:=o9 (x:=aJ) (y:=1) (by rw [Tl]; omega) (by decide) (by decide);have hd:=Cp (x:=aJ - 1) (y:=4) (cK (dA (k:=32) (by decide +kernel)) (by decide)) (by decide) (by decide);generalize hq:(aJ - 1) / 4=q at hd;have hl:(nb q).length <= 1048576:=cK (dA (k:=32) (by rw [<-hq]; decide +kernel)) (by decide);have hp:=Ib (a:=2) (y:=q) (by decide) hl;have ha:=AD (eM (2 ^ q));rw [aSC q hq] at ha;rw [<-eN1] at hs;rw [<-eN4] at hd;rw [<-eN2] at hp;generalize 2 ^ q%aJ=z at *;generalize aJ - 1=w at *;simp only [eN] at hs hd hp ha;rw [E6,aC,hs,aC,hd,aC,hp,aC,ha];rfl
 ·cases ht
abbrev iZ:Int:=19681161376707505956807079304988542015446066515923890162744021073123829784752
theorem V4:cg (iZ*iZ) (-1):=⟨6690407189080634018507799843845558368979872843924222843531373839242004886245,by decide +kernel⟩
theorem aJA (k:Nat):(-1:Int) ^ (2*k+1)=-1:=by
 rw [vF,J9];have:((-1:Int) ^ 2)=1:=by decide
 rw [this,Int.one_pow]; decide
theorem aZ3 (V:Int) (e:Nat):(V*V*V*(V*V*V)*V) ^ e=V ^ (7*e):=by
 rw [J9]; congr 1; grind
theorem aSD (U V:Int) (e:Nat):U*(V*V*V)*(U*(V*V*V*(V*V*V)*V)) ^ e=U ^ (e+1)*V ^ (7*e+3):=by
 rw [Int.mul_pow,aZ3,vF,Cw];generalize U ^ e=A;generalize V ^ (7*e)=B;grind
theorem ZT {U V R w z:Int} (e:Nat) (he:8*e+4=aJ - 1) (hV:¬ cg V 0) (hR:cg R (U*(V*V*V)*(U*(V*V*V*(V*V*V)*V)) ^ e))
  (hw:cg w (U*V ^ (8*e+3))) (hz:cg z (w ^ (e+1))):cg R z:=by
 rw [aSD] at hR;have h1:=hz.trans (hw.pow (e+1));rw [Int.mul_pow,<-J9,show (8*e+3)*(e+1)=(8*e+4)*e+(7*e+3) by grind,Cw (m:=(8*e+4)*e),J9 (n:=8*e+4)] at h1;have h2:=(A6 hV (8*e+4) he).pow e;rw [Int.one_pow] at h2;have h3:=h1.trans ((cg.refl _).mul (h2.mul (cg.refl (V ^ (7*e+3)))));rw [rE] at h3;exact hR.trans h3.symm
theorem ZU {w z:Int} (e:Nat) (he:8*e+4=aJ - 1) (hw:¬ cg w 0) (hz:cg z (w ^ (e+1))) :
  cg (z*z) w ∨ cg (z*z) (-w) ∨ cg (z*z) (iZ*w) ∨ cg (z*z) (-(iZ*w)):=by
 have h1:=hz.mul hz;rw [<-Cw,show e+1+(e+1)=2*e+1+1 by omega,vF] at h1;have hh:=Wh hw (4*e+2) (by omega);rw [show 4*e+2=(2*e+1)+(2*e+1) by omega,Cw] at hh;generalize w ^ (2*e+1)=X at *;have j8:∀ c:Int,cg X c->cg (z*z) (c*w):=λ c hc=>h1.trans (hc.mul (cg.refl w));rcases hh with h | h
 ·have h':cg (X*X) (1*1):=h;rcases Qe h' with h | h
  ·have:=j8 _ h;rw [rE] at this;exact .inl this
  ·have:=j8 _ h;rw [rD,rE] at this;exact .inr (.inl this)
 ·rcases Qe (h.trans V4.symm) with h | h
  ·exact .inr (.inr (.inl (j8 _ h)))
  ·have:=j8 _ h;rw [rD] at this;exact .inr (.inr (.inr this))
theorem aC1 {e k:Nat} (h:e+1=2*(2*k+1)):cg (iZ ^ (e+1)) (-1):=by
 rw [h,J9];have h2:cg (iZ ^ 2) (-1):=by
  rw [show (2:Nat)=1+1 from rfl,vF,vF,Int.pow_zero,rE];exact V4
 have:=h2.pow (2*k+1);rwa [aJA] at this
theorem ZV {w z z2 w2:Int} {e k:Nat} (h:e+1=2*(2*k+1)) (hz:cg z (w ^ (e+1))) (hw2:cg w2 (iZ*w)) (hz2:cg z2 (w2 ^ (e+1))):cg z2 (-z):=by
 have h1:=hz2.trans (hw2.pow (e+1));rw [Int.mul_pow] at h1;have h2:=h1.trans ((aC1 h).mul hz.symm);rwa [rD,rE] at h2
theorem aC2 {U:Int} (hU:¬ cg U 0) {c d:Int} (h:cg (c*U) (d*U)):cg (c - d) 0:=by
 have h1:=h.sub (cg.refl (d*U));rw [<-Int.sub_mul,<-Int.sub_mul,Int.sub_self,yN] at h1;rcases mU h1 with h | h
 ·exact h
 ·exact absurd h hU
theorem aC3 {z w:Nat} (hw:w < aJ) {Z:Int} (hz:cg (z:Int) Z):z*z%aJ=w ↔ cg (Z*Z) (w:Int):=by
 have h:=hz.mul hz;rw [<-oA] at h;constructor
 ·intro e;have:cg ((z*z:Nat):Int) (w:Int):=mG.2 (by rw [e,aV hw]);exact h.symm.trans this
 ·intro e;have:=mG.1 (h.trans e);rwa [aV hw] at this
theorem aJB (Z:Int):cg (Z*iZ*(Z*iZ)) (-(Z*Z)):=by
 have e:Z*iZ*(Z*iZ)=Z*Z*(iZ*iZ):=by
  generalize iZ=i;grind
 rw [e];have:=(cg.refl (Z*Z)).mul V4;rwa [Int.mul_neg,Int.mul_one] at this
end
end Go.Eng
