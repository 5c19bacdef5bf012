import Derived.Test.YthiilbllojllcaaGreatZF3
namespace Go.Eng
set_option linter.unusedVariables false
abbrev iZ:Int:=19681161376707505956807079304988542015446066515923890162744021073123829784752
theorem Z6:cg (iZ*iZ) (-1):=⟨6690407189080634018507799843845558368979872843924222843531373839242004886245,by decide +kernel⟩
theorem aOI (k:Nat):(-1:Int) ^ (2*k+1)=-1:=by
 rw [yQ,NA];have:((-1:Int) ^ 2)=1:=by decide
 rw [this,Int.one_pow]; decide
theorem bJd (V:Int) (e:Nat):(V*V*V*(V*V*V)*V) ^ e=V ^ (7*e):=by
 rw [NA]; congr 1; grind
theorem aYT (U V:Int) (e:Nat):U*(V*V*V)*(U*(V*V*V*(V*V*V)*V)) ^ e=U ^ (e+1)*V ^ (7*e+3):=by
 rw [Int.mul_pow,bJd,yQ,Et];generalize U ^ e=A;generalize V ^ (7*e)=B;grind
theorem aDW {U V R w z:Int} (e:Nat) (he:8*e+4=aK - 1) (hV:¬ cg V 0) (hR:cg R (U*(V*V*V)*(U*(V*V*V*(V*V*V)*V)) ^ e))
  (hw:cg w (U*V ^ (8*e+3))) (hz:cg z (w ^ (e+1))):cg R z:=by
 rw [aYT] at hR;have h1:=hz.trans (hw.pow (e+1));rw [Int.mul_pow,<-NA,show (8*e+3)*(e+1)=(8*e+4)*e+(7*e+3) by grind,Et (m:=(8*e+4)*e),NA (n:=8*e+4)] at h1;have h2:=(Ct hV (8*e+4) he).pow e;rw [Int.one_pow] at h2;have h3:=h1.trans ((cg.refl _).mul (h2.mul (cg.refl (V ^ (7*e+3)))));rw [uA] at h3;exact hR.trans h3.symm
theorem aDX {w z:Int} (e:Nat) (he:8*e+4=aK - 1) (hw:¬ cg w 0) (hz:cg z (w ^ (e+1))) :
  cg (z*z) w ∨ cg (z*z) (-w) ∨ cg (z*z) (iZ*w) ∨ cg (z*z) (-(iZ*w)):=by
 have h1:=hz.mul hz;rw [<-Et,show e+1+(e+1)=2*e+1+1 by omega,yQ] at h1;have hh:=aAI hw (4*e+2) (by omega);rw [show 4*e+2=(2*e+1)+(2*e+1) by omega,Et] at hh;generalize w ^ (2*e+1)=X at *;have lQ:∀ c:Int,cg X c->cg (z*z) (c*w):=λ c hc=>h1.trans (hc.mul (cg.refl w));rcases hh with h | h
 ·have h':cg (X*X) (1*1):=h;rcases Tv h' with h | h
  ·have:=lQ _ h;rw [uA] at this;exact .inl this
  ·have:=lQ _ h;rw [tZ,uA] at this;exact .inr (.inl this)
 ·rcases Tv (h.trans Z6.symm) with h | h
  ·exact .inr (.inr (.inl (lQ _ h)))
  ·have:=lQ _ h;rw [tZ] at this;exact .inr (.inr (.inr this))
theorem aGP {e k:Nat} (h:e+1=2*(2*k+1)):cg (iZ ^ (e+1)) (-1):=by
 rw [h,NA];have h2:cg (iZ ^ 2) (-1):=by
  rw [show (2:Nat)=1+1 from rfl,yQ,yQ,Int.pow_zero,uA];exact Z6
 have:=h2.pow (2*k+1);rwa [aOI] at this
theorem aDY {w z z2 w2:Int} {e k:Nat} (h:e+1=2*(2*k+1)) (hz:cg z (w ^ (e+1))) (hw2:cg w2 (iZ*w)) (hz2:cg z2 (w2 ^ (e+1))):cg z2 (-z):=by
 have h1:=hz2.trans (hw2.pow (e+1));rw [Int.mul_pow] at h1;have h2:=h1.trans ((aGP h).mul hz.symm);rwa [tZ,uA] at h2
theorem aGQ {U:Int} (hU:¬ cg U 0) {c d:Int} (h:cg (c*U) (d*U)):cg (c - d) 0:=by
 have h1:=h.sub (cg.refl (d*U));rw [<-Int.sub_mul,<-Int.sub_mul,Int.sub_self,Ao] at h1;rcases pA h1 with h | h
 ·exact h
 ·exact absurd h hU
theorem aGR {z w:Nat} (hw:w < aK) {Z:Int} (hz:cg (z:Int) Z):z*z%aK=w ↔ cg (Z*Z) (w:Int):=by
 have h:=hz.mul hz;rw [<-qG] at h;constructor
 ·intro e;have:cg ((z*z:Nat):Int) (w:Int):=oP.2 (by rw [e,aY hw]);exact h.symm.trans this
 ·intro e;have:=oP.1 (h.trans e);rwa [aY hw] at this
theorem aOJ (Z:Int):cg (Z*iZ*(Z*iZ)) (-(Z*Z)):=by
 have e:Z*iZ*(Z*iZ)=Z*Z*(iZ*iZ):=by
  generalize iZ=i;grind
 rw [e];have:=(cg.refl (Z*Z)).mul Z6;rwa [Int.mul_neg,Int.mul_one] at this
end Go.Eng
