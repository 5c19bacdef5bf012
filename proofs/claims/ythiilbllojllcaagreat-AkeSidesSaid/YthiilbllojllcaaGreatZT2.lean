import Derived.Test.YthiilbllojllcaaGreatZT1
namespace Go.Eng
set_option linter.unusedVariables false
def i6 (a:Fin QP):Bool:=Nat.beq (a.val%2) 1
def oN (a:Fin QP):Fin QP:=cond (i6 a) (-a) a
theorem aOE {a:Fin QP} (h:a ≠ 0):(-a).val=aK - a.val:=by
 have h1:fn (aK - a.val)+a=0:=by
  have:fn (aK - a.val)+fn a.val=0:=by
   rw [<-fQ,DR (As (Tr a))];exact Xa (KK _)
  rwa [nK] at this
 have h2:-a=fn (aK - a.val):=by grind (splits:=0) -lia -linarith
 rw [h2,bBb,aY];have h3:a.val ≠ 0:=λ e=>h (by rw [<-nK a,e,xH]);have:=Tr a;omega
theorem sS {a:Fin QP} (h:a ≠ 0):i6 (-a)=!i6 a:=by
 have h1:=aOE h;have h3:=Tr a;unfold i6;rw [h1];have e:(aK - a.val)%2=1 - a.val%2:=by
  have:aK%2=1:=by decide
  generalize aK=p at *;omega
 rw [e];rcases TG a.val with h | h <;> rw [h] <;> rfl
theorem Cl:(-(0:Fin QP))=0:=by grind (splits:=0) -lia -linarith
theorem aDS:i6 0=false:=rfl
theorem q8 (a:Fin QP):i6 (oN a)=false:=by
 unfold oN;cases h:i6 a
 ·exact h
 ·by_cases h0:a=0
  ·rw [h0,aDS] at h; cases h
  ·show i6 (-a)=false;rw [sS h0,h]; rfl
theorem rT (a:Fin QP):oN a=a ∨ oN a=-a:=by
 unfold oN;cases i6 a
 ·exact .inl rfl
 ·exact .inr rfl
theorem TL (a:Fin QP):oN (-a)=oN a:=by
 by_cases h0:a=0
 ·rw [h0,Cl]
 ·unfold oN;rw [sS h0];cases i6 a
  ·show -(-a)=a;grind (splits:=0) -lia -linarith
  ·rfl
theorem Zz {a:Fin QP} (h:i6 a=false):oN a=a:=by unfold oN; rw [h]; rfl
theorem Pa {a b:Fin QP} (ha:i6 a=false) (hb:i6 b=false) (h:a=b ∨ a=-b):a=b:=by
 rcases h with h | h
 ·exact h
 ·have:=TL b;rw [<-h,Zz ha,Zz hb] at this;exact this
theorem bGh (C:Cur QP) {a b:Fin QP} (h:a*a=b*b):a=b ∨ a=-b:=by
 have:(a - b)*(a+b)=0:=by grind (splits:=0) -lia -linarith
 rcases C.noz _ _ this with h | h
 ·left; grind (splits:=0) -lia -linarith
 ·right; grind (splits:=0) -lia -linarith
theorem aYJ:iNQ ^ hQN%aK=aK - 1:=by
 rw [<-N6 iNQ aK 256 hQN (by decide +kernel)];decide +kernel
theorem aGw (a b:Fin QP) (h:a*a=CP.i*(b*b)):b=0:=by
 have h:a*a=fn iNQ*(b*b):=h;rw [<-nK a,<-nK b,<-bI,<-bI,<-bI,nT] at h;rw [<-nK b];exact jA.2 (bBd (h:=hQN) prP (by decide) (by decide) aYJ h)
structure RatOf (u v r:Fin QP) (b:Bool):Prop where
 even:i6 r=false
 yes:b=true->v*(r*r)=u
 no:b=false->v ≠ 0->v*(r*r)=CP.i*u
 nz:b=false->u ≠ 0
 zero:v=0->r=0
 zu:u=0->r=0
theorem RatOf.uniq {u v r r':Fin QP} {b b':Bool} (h:RatOf u v r b) (h':RatOf u v r' b'):r=r' /\ b=b':=by
 have main:∀ {r r':Fin QP} {b b':Bool},RatOf u v r b->RatOf u v r' b'->b=true->b'=false->False:=by
  intro r r' b b' h h' e e';have h1:=h.yes e;have hu:=h'.nz e';by_cases hv:v=0
  ·rw [hv,lB] at h1; exact hu h1.symm
  ·have h2:=h'.no e' hv;have h3:(v*r')*(v*r')=CP.i*((v*r)*(v*r)):=by
    rw [<-h1] at h2;clear h1;grind (splits:=0) -lia -linarith
   have h4:=aGw _ _ h3;rcases CP.noz _ _ h4 with h5 | h5
   ·exact hv h5
   ·rw [h5,lB,gV] at h1; exact hu h1.symm
 have eb:b=b':=by
  cases b <;> cases b'
  ·rfl
  ·exact (main h' h rfl rfl).elim
  ·exact (main h h' rfl rfl).elim
  ·rfl
 refine ⟨?_,eb⟩;subst eb;by_cases hv:v=0
 ·rw [h.zero hv,h'.zero hv]
 ·refine Pa h.even h'.even (bGh CP ?_);have e:v*(r*r)=v*(r'*r'):=by
   cases b
   ·rw [h.no rfl hv,h'.no rfl hv]
   ·rw [h.yes rfl,h'.yes rfl]
  exact CP.can hv (by rw [IB,e,IB])
theorem Pb {z:Fe} (hz:cS z):ph (wX z)=oN (ph z):=by
 have hv:=JT hz P8;have h1:wX z=cond (Nat.beq (fv z%aK%2) 1) (cQ f0 z) z:=rfl;rw [h1];unfold oN i6;have h2:(ph z).val=fv z%aK:=rfl;rw [h2];cases Nat.beq (fv z%aK%2) 1
 ·rfl
 ·show ph (cQ f0 z)=-ph z;rw [jL hz,Iw];grind (splits:=0) -lia -linarith
theorem HD (z:Fe):qS z=i6 (ph z):=rfl
theorem aVJ {a b:Nat} (h:cg (a:Int) (b:Int)):fn a=fn b:=nT.2 (oP.1 h)
theorem aGx {a b:Nat} (h:cg (a:Int) (-(b:Int))):fn a=-fn b:=by
 have h1:=h.add (cg.refl (b:Int));rw [<-iE,Int.add_left_neg] at h1;have h2:fn (a+b)=0:=jA.2 (rX.1 h1);rw [fQ] at h2;grind (splits:=0) -lia -linarith
theorem aGy {U V R:Int} {e:Nat} (he:8*e+4=aK - 1) (hU:¬ cg U 0) (hV:¬ cg V 0) (hR:cg R (U*(V*V*V)*(U*(V*V*V*(V*V*V)*V)) ^ e)) :
  cg (V*(R*R)) U ∨ cg (V*(R*R)) (-U) ∨ cg (V*(R*R)) (iZ*U) ∨ cg (V*(R*R)) (-(iZ*U)):=by
 have hW:¬ cg (U*(V*V*V*(V*V*V)*V)) 0:=λ h=>by
  rcases pA h with h | h
  ·exact hU h
  rcases pA h with h | h
  ·rcases pA h with h | h <;>
   ·rcases pA h with h | h
    ·rcases pA h with h | h <;> exact hV h
    ·exact hV h
  ·exact hV h
 have h1:cg (V*(R*R)) (U*(U*(V*V*V*(V*V*V)*V)) ^ (2*e+1)):=by
  have h:=(cg.refl V).mul (hR.mul hR);have e1:V*(U*(V*V*V)*(U*(V*V*V*(V*V*V)*V)) ^ e*(U*(V*V*V)*(U*(V*V*V*(V*V*V)*V)) ^ e))=U*(U*(V*V*V*(V*V*V)*V)) ^ (2*e+1):=by
   rw [show 2*e+1=e+e+1 by omega,yQ,Et];generalize (U*(V*V*V*(V*V*V)*V)) ^ e=K;grind
  rwa [e1] at h
 have hh:=aAI hW (4*e+2) (by omega);rw [show 4*e+2=(2*e+1)+(2*e+1) by omega,Et] at hh;generalize (U*(V*V*V*(V*V*V)*V)) ^ (2*e+1)=X at *;have lQ:∀ c:Int,cg X c->cg (V*(R*R)) (c*U):=λ c hc=>by
  have:=h1.trans ((cg.refl U).mul hc);rwa [Int.mul_comm U c] at this
 rcases hh with h | h
 ·have h':cg (X*X) (1*1):=h;rcases Tv h' with h | h
  ·have:=lQ _ h;rw [uA] at this;exact .inl this
  ·have:=lQ _ h;rw [tZ,uA] at this;exact .inr (.inl this)
 ·rcases Tv (h.trans Z6.symm) with h | h
  ·exact .inr (.inr (.inl (lQ _ h)))
  ·have:=lQ _ h;rw [tZ] at this;exact .inr (.inr (.inr this))
theorem Z0:ph iF=CP.i:=xW (by decide)
section
variable {q:Nat} [NeZero q]
theorem rx1 {v R u i a:Fin q} (h:v*(R*R)=u) (ha:a=R ∨ a=-R):v*(a*a)=u:=by
 rcases ha with rfl | rfl <;> grind (splits:=0) -lia -linarith
theorem rx2 {v R u i a:Fin q} (hi:i*i=-1) (h:v*(R*R)=-u) (ha:a=R*i ∨ a=-(R*i)):v*(a*a)=u:=by
 rcases ha with rfl | rfl <;> grind (splits:=0) -lia -linarith
theorem rx3 {v R u i a:Fin q} (hi:i*i=-1) (h:v*(R*R)=-(i*u)) (ha:a=R*i ∨ a=-(R*i)):v*(a*a)=i*u:=by
 rcases ha with rfl | rfl <;> grind (splits:=0) -lia -linarith
end
theorem aGz {x y:Fe} (h:ph x=0 ∨ ph y=0):ph (dZ x y)=0:=by
 unfold dZ;rw [bG,bG,bG];rcases h with h | h <;> rw [h] <;> grind (splits:=0) -lia -linarith
theorem TM {x y:Fe} (hx:cS x) (hy:cS y):RatOf (ph x) (ph y) (ph (mC x y).1) (mC x y).2:=by
 have hR:cS (dZ x y):=S5 hx hy;have hA:jW (aN y (aN (dZ x y) (dZ x y))) x=true ↔ ph y*(ph (dZ x y)*ph (dZ x y))=ph x:=by rw [Eh,bG,bG]
 have hB:jW (aN y (aN (dZ x y) (dZ x y))) (cQ f0 x)=true ↔ ph y*(ph (dZ x y)*ph (dZ x y))=-ph x:=by
  rw [Eh,bG,bG,jL hx,Iw];constructor <;> intro h <;> rw [h] <;> grind (splits:=0) -lia -linarith
 have hD:jW (aN y (aN (dZ x y) (dZ x y))) (aN (cQ f0 x) iF)=true ↔ ph y*(ph (dZ x y)*ph (dZ x y))=-(CP.i*ph x):=by
  rw [Eh,bG,bG,bG,jL hx,Iw,Z0];constructor <;> intro h <;> rw [h] <;> grind (splits:=0) -lia -linarith
 have hQ:ph (aN (dZ x y) iF)=ph (dZ x y)*CP.i:=by rw [bG,Z0]
 have oQ:cS (aN (dZ x y) iF):=aL hR xI;have h0:ph x=0 ∨ ph y=0->ph (dZ x y)=0:=aGz;have h4:ph x ≠ 0->ph y ≠ 0->ph y*(ph (dZ x y)*ph (dZ x y))=ph x ∨ ph y*(ph (dZ x y)*ph (dZ x y))=-ph x ∨ ph y*(ph (dZ x y)*ph (dZ x y))=CP.i*ph x ∨ ph y*(ph (dZ x y)*ph (dZ x y))=-(CP.i*ph x):=by
  intro gx gy;have hU:¬ cg (fv x:Int) 0:=λ h=>gx (jA.2 (rX.1 h));have hV:¬ cg (fv y:Int) 0:=λ h=>gy (jA.2 (rX.1 h));have c3:cg (fv (aN (aN y y) y):Int) ((fv y:Int)*fv y*fv y):=(iU _ y).trans ((iU y y).mul (cg.refl _));have c7:cg (fv (aN x (aN (aN (aN (aN y y) y) (aN (aN y y) y)) y)):Int) ((fv x:Int)*((fv y:Int)*fv y*fv y*((fv y:Int)*fv y*fv y)*fv y)) :=
   (iU x _).trans ((cg.refl _).mul ((iU _ y).trans (((iU _ _).trans (c3.mul c3)).mul (cg.refl _))))
  have cr:cg (fv (dZ x y):Int) ((fv x:Int)*((fv y:Int)*fv y*fv y)*((fv x:Int)*((fv y:Int)*fv y*fv y*((fv y:Int)*fv y*fv y)*fv y)) ^ nU 253 252) :=
   (iU _ _).trans (((iU x _).trans ((cg.refl _).mul c3)).mul ((aAH _ 253 252).trans (c7.pow _)))
  have f:=aGy aTi hU hV cr;have e1:fn (fv y*(fv (dZ x y)*fv (dZ x y)))=ph y*(ph (dZ x y)*ph (dZ x y)):=by rw [bI,bI]; rfl
  have e2:fn (iNQ*fv x)=CP.i*ph x:=by rw [bI]; rfl
  have z1:((fv y:Int)*((fv (dZ x y):Int)*(fv (dZ x y):Int)))=((fv y*(fv (dZ x y)*fv (dZ x y)):Nat):Int):=by rw [qG,qG]
  have z2:iZ*(fv x:Int)=((iNQ*fv x:Nat):Int):=by rw [qG]; rfl
  rw [z1,z2] at f;rcases f with f | f | f | f
  ·exact .inl (e1.symm.trans (aVJ f))
  ·exact .inr (.inl (e1.symm.trans (aGx f)))
  ·exact .inr (.inr (.inl (e1.symm.trans ((aVJ f).trans e2))))
  ·exact .inr (.inr (.inr (e1.symm.trans ((aGx f).trans (by rw [e2])))))
 unfold mC;generalize jW (aN y (aN (dZ x y) (dZ x y))) x=A at *;generalize jW (aN y (aN (dZ x y) (dZ x y))) (cQ f0 x)=B at *;generalize jW (aN y (aN (dZ x y) (dZ x y))) (aN (cQ f0 x) iF)=D at *;generalize aN (dZ x y) iF=Q at *;generalize dZ x y=R at *;have oC:cS (cond (B || D) Q R):=by
  cases (B || D)
  ·exact hR
  ·exact oQ
 have hab:=Pb oC;show RatOf (ph x) (ph y) (ph (wX (cond (B || D) Q R))) (A || B);rw [hab];have pm:=rT (ph (cond (B || D) Q R));have ev:=q8 (ph (cond (B || D) Q R));have z0:ph R=0->oN (ph (cond (B || D) Q R))=0:=by
  intro h;have:ph (cond (B || D) Q R)=0:=by
   cases (B || D)
   ·exact h
   ·show ph Q=0;rw [hQ,h,lB]
  rw [this]; rfl
 clear hab;have hii:=CP.ii;have hi0:=CP.i_ne;have key:∀ {c d:Fin QP},ph x ≠ 0->c*ph x=d*ph x->c=d:=λ h e=>CP.can h e;have one:(1:Fin QP)*ph x=ph x:=Fin.one_mul _;refine ⟨ev,λ hb=>?_,λ hb hv=>?_,λ hb hu=>?_,λ hv=>z0 (h0 (.inr hv)),λ hu=>z0 (h0 (.inl hu))⟩
 ·-- a square
  cases B
  ·rw [Bool.or_false] at hb;have h1:=hA.1 hb;cases D
   ·exact rx1 (i:=CP.i) h1 pm
   ·have h2:=hD.1 rfl;have hx0:ph x=0:=by
     by_cases gx:ph x=0
     ·exact gx
     ·exfalso;have h3:CP.i*ph x=-1*ph x:=by
       rw [h1] at h2;grind (splits:=0) -lia -linarith
      have h4:=key gx h3;rw [h4] at hii;have:(2:Fin QP)=0:=by grind (splits:=0) -lia -linarith
      exact CP.h2 this
    rw [z0 (h0 (.inl hx0)),hx0,lB,gV]
  ·have h1:=hB.1 rfl;have pm':oN (ph (cond (true || D) Q R))=ph R*CP.i ∨ oN (ph (cond (true || D) Q R))=-(ph R*CP.i):=by
    rw [<-hQ]; exact pm
   exact rx2 hii h1 pm'
 ·-- none
  rw [Es] at hb;obtain ⟨rfl,rfl⟩:=hb;by_cases gx:ph x=0
  ·rw [z0 (h0 (.inl gx)),gx];grind (splits:=0) -lia -linarith
  rcases h4 gx hv with f | f | f | f
  ·exact absurd (hA.2 f) (by simp)
  ·exact absurd (hB.2 f) (by simp)
  ·cases D
   ·exact rx1 (i:=CP.i) f pm
   ·have h2:=hD.1 rfl;exfalso;rw [f] at h2;have h3:CP.i*ph x+CP.i*ph x=0:=by grind (splits:=0) -lia -linarith
    exact aL3 CP (CP.mul_ne hi0 gx) h3
  ·have hD':=hD.2 f;subst hD';have pm':oN (ph (cond (false || true) Q R))=ph R*CP.i ∨ oN (ph (cond (false || true) Q R))=-(ph R*CP.i):=by
    rw [<-hQ]; exact pm
   exact rx3 hii f pm'
 ·rw [Es] at hb;obtain ⟨rfl,_⟩:=hb;have:(false:Bool)=true:=hA.2 (by rw [h0 (.inl hu),hu]; grind (splits:=0) -lia -linarith);cases this
def wV (u v:Fin QP):Fin QP × Bool:=(ph (mC (fe u.val) (fe v.val)).1,(mC (fe u.val) (fe v.val)).2)
theorem aGA (a:Fin QP):ph (fe a.val)=a:=by rw [xW (Tr a),nK]
theorem mS (u v:Fin QP):RatOf u v (wV u v).1 (wV u v).2:=by
 have:=TM (cA u.val) (cA v.val);rwa [aGA,aGA] at this
theorem KQ {x y:Fe} (hx:cS x) (hy:cS y):ph (mC x y).1=(wV (ph x) (ph y)).1 /\ (mC x y).2=(wV (ph x) (ph y)).2:=(TM hx hy).uniq (mS _ _)
theorem aGB {u v:Nat} (hu:u < aK) (hv:v < aK):fn (DZ u v).1=(wV (fn u) (fn v)).1 /\ (DZ u v).2=(wV (fn u) (fn v)).2:=by
 have eu:fv (fe u)=u:=Dq (cZ hu (by decide));have ev:fv (fe v)=v:=Dq (cZ hv (by decide));have h:=aL2 (cA u) (cA v) (by rw [eu]; exact hu) (by rw [ev]; exact hv);rw [eu,ev] at h;have k:=KQ (cA u) (cA v);rw [xW hu,xW hv] at k;rw [<-h.1,<-h.2,bR];exact k
def cO:Fin QP:=fn Ti
def zQ (i x y z t:Fin QP):Fin QP:=i*((z+y)*(z - y))*(i*(x*y))*t
def TN (i x y z t:Fin QP):Fin QP :=
 oN (cond (i6 (t*zQ i x y z t)) (i*((z+y)*(z - y))*cO) (i*(x*y)) *
  (z - cond (i6 (cond (i6 (t*zQ i x y z t)) (y*CP.i) x*zQ i x y z t)) (-(cond (i6 (t*zQ i x y z t)) (x*CP.i) y)) (cond (i6 (t*zQ i x y z t)) (x*CP.i) y)))
def NN (x y z t:Fin QP):Fin QP:=TN (wV 1 ((z+y)*(z - y)*(x*y*(x*y)))).1 x y z t
theorem mG (a:Fin QP):0 - a=-a:=by grind (splits:=0) -lia -linarith
theorem Cm (b:Bool) (x y:Fe):ph (cond b x y)=cond b (ph x) (ph y):=by cases b <;> rfl
theorem aGC {p:Pt} (hp:nG p):ph (cW p)=NN (ph p.x) (ph p.y) (ph p.z) (ph p.t):=by
 have k1:=Kh hp;have k2:=HS hp;have h1:ph (u1E p)=(ph p.z+ph p.y)*(ph p.z - ph p.y):=by unfold u1E; rw [bG,mM,jL hp.2.1]
 have h2:ph (u2E p)=ph p.x*ph p.y:=by unfold u2E; rw [bG]
 have h3:ph (FQ p)=(wV 1 ((ph p.z+ph p.y)*(ph p.z - ph p.y)*(ph p.x*ph p.y*(ph p.x*ph p.y)))).1:=by
  unfold FQ;rw [(KQ (cA 1) (aL k1 (aL k2 k2))).1,BB,bG,bG,h1,h2]
 unfold NN;rw [<-h3];have h4:ph (ziE p)=zQ (ph (FQ p)) (ph p.x) (ph p.y) (ph p.z) (ph p.t):=by
  unfold ziE zQ;rw [bG,bG,bG,bG,h1,h2]
 have h5:HM p=i6 (ph p.t*zQ (ph (FQ p)) (ph p.x) (ph p.y) (ph p.z) (ph p.t)):=by
  unfold HM;rw [HD,bG,h4]
 have hc:ph (fe Ti)=cO:=xW (by decide);unfold TN cW;rw [Pb (aL (Pz hp) (cR hp.2.2.1)),bG,jL (aHV hp)];unfold y2E;rw [Cm,jL (aHU hp),Iw,mG,HD,bG,h4];unfold xE yE Px;rw [Cm,Cm,Cm,bG,bG,bG,bG,bG,h1,h2,Z0,hc,h5]
theorem aVK:fn iN=CP.i:=rfl
theorem E9 (b:Bool) (x y:Nat):fn (cond b x y)=cond b (fn x) (fn y):=by cases b <;> rfl
theorem Pc (n:Nat):Nat.beq (n%aK%2) 1=i6 (fn n):=rfl
theorem Z1 {n:Nat} (h:n < aK):Nat.beq (n%2) 1=i6 (fn n):=by rw [<-Pc,aY h]
theorem Z2 {n:Nat} (h:n < aK):fn (q9 n)=oN (fn n):=by
 unfold q9 oN;rw [E9,Z1 h,bR,w6 h,xH,mG]
theorem TO {u v:Nat} (hu:u < aK) (hv:v < aK):(DZ u v).1 < aK:=by
 have eu:fv (fe u)=u:=Dq (cZ hu (by decide));have ev:fv (fe v)=v:=Dq (cZ hv (by decide));have h:=(aL2 (cA u) (cA v) (by rw [eu]; exact hu) (by rw [ev]; exact hv)).1;rw [eu,ev] at h;rw [<-h];exact mP _
section
variable {x y:Nat} (hx:x < aK) (hy:y < aK)
theorem aGD (hy:y < aK):fn (Wt x y)=(1+fn y)*(1 - fn y):=by
 unfold Wt;rw [bR,bI,bR,fQ,bR,w6 hy,jK]
theorem aOF (hy:y < aK):fn (AD x y)=(wV 1 ((1+fn y)*(1 - fn y)*(fn x*fn y*(fn x*fn y)))).1:=by
 have hv:Wt x y*(x*y%aK*(x*y%aK)%aK)%aK < aK:=mP _;unfold AD;rw [(aGB (by decide) hv).1,jK,bR,bI,aGD hy,bR,bI,bR,bI]
theorem bGi (hy:y < aK):fn (ziR x y)=zQ (fn (AD x y)) (fn x) (fn y) 1 (fn x*fn y):=by
 unfold ziR zQ;rw [bR,bI,bR,bI,bR,bI,bR,bI,bR,bI,aGD hy]
theorem aYK (hy:y < aK):HN x y=i6 (fn x*fn y*fn (ziR x y)):=by
 unfold HN;rw [Pc,bI,bR,bI]
theorem bGj:fn (xR x y)=cond (HN x y) (fn y*CP.i) (fn x):=by
 unfold xR;rw [E9,bR,bI,aVK]
theorem bGk:fn (yR x y)=cond (HN x y) (fn x*CP.i) (fn y):=by
 unfold yR;rw [E9,bR,bI,aVK]
theorem aOG (hy:y < aK):fn (Tj x y)=cond (HN x y) (fn (AD x y)*((1+fn y)*(1 - fn y))*cO) (fn (AD x y)*(fn x*fn y)):=by
 have:fn Ti=cO:=rfl;unfold Tj;rw [E9,bR,bI,bR,bI,bR,bI,bR,bI,aGD hy,this]
theorem FB {b:Bool} {x y n:Nat} (hx:x < n) (hy:y < n):cond b x y < n:=by
 cases b
 ·exact hy
 ·exact hx
theorem aGE (hy:y < aK):yR x y < aK:=by
 unfold yR;exact FB (mP _) hy
theorem aGF (hy:y < aK):y2R x y < aK:=by
 unfold y2R;exact FB (mP _) (aGE hy)
theorem aYL (hy:y < aK):fn (y2R x y)=cond (i6 (fn (xR x y)*fn (ziR x y))) (-(fn (yR x y))) (fn (yR x y)):=by
 unfold y2R;rw [E9,bR,w6 (aGE hy),xH,mG,Pc,bI]
theorem aDT (hy:y < aK):fn (nJ x y)=oN (fn (Tj x y)*(1 - fn (y2R x y))):=by
 unfold nJ;rw [Z2 (mP _),bR,bI,bR,w6 (aGF hy),jK]
theorem aGG (hy:y < aK):fn (nJ x y)=NN (fn x) (fn y) 1 (fn x*fn y):=by
 unfold NN;rw [<-aOF hy];unfold TN;rw [<-bGi hy,<-aYK hy,<-bGj,<-bGk,<-aYL hy,<-aOG hy,aDT hy]
end
section
variable {q:Nat} [NeZero q]
theorem es1 {i i' x y z:Fin q} (hi:i=i'*(z*z*z) ∨ i=-(i'*(z*z*z))):i'*((z+y*z)*(z - y*z))*(i'*(x*z*(y*z)))*(x*y*z)*z=i*((1+y)*(1 - y))*(i*(x*y))*(x*y):=by
 rcases hi with rfl | rfl <;> grind (splits:=0) -lia -linarith
theorem nB {a b Z Z' z:Fin q} (h:Z'*z=Z):a*z*Z'=a*Z /\ a*b*z*Z'=a*b*Z /\ a*z*b*Z'=a*b*Z:=by
 subst h;refine ⟨?_,?_,?_⟩ <;> grind (splits:=0) -lia -linarith
theorem es3 {i i' x y z w w':Fin q} (hi:i=i'*(z*z*z) ∨ i=-(i'*(z*z*z))) (hw:w'=w*z):i'*(x*z*(y*z))*(z - w')=i*(x*y)*(1 - w) ∨ i'*(x*z*(y*z))*(z - w')=-(i*(x*y)*(1 - w)):=by
 subst hw;rcases hi with rfl | rfl
 ·left; grind (splits:=0) -lia -linarith
 ·right; grind (splits:=0) -lia -linarith
theorem es4 {i i' y z w w' c:Fin q} (hi:i=i'*(z*z*z) ∨ i=-(i'*(z*z*z))) (hw:w'=w*z):i'*((z+y*z)*(z - y*z))*c*(z - w')=i*((1+y)*(1 - y))*c*(1 - w) ∨ i'*((z+y*z)*(z - y*z))*c*(z - w')=-(i*((1+y)*(1 - y))*c*(1 - w)):=by
 subst hw;rcases hi with rfl | rfl
 ·left; grind (splits:=0) -lia -linarith
 ·right; grind (splits:=0) -lia -linarith
theorem es5 {x y z:Fin q}:(z+y*z)*(z - y*z)*(x*z*(y*z)*(x*z*(y*z)))=z*z*z*(z*z*z)*((1+y)*(1 - y)*(x*y*(x*y))):=by grind (splits:=0) -lia -linarith
theorem es6 {x z:Fin q}:-(x*z)=-x*z:=by grind (splits:=0) -lia -linarith
theorem es7 {x z i:Fin q}:x*z*i=x*i*z:=by grind (splits:=0) -lia -linarith
theorem es8 {v r z3 a u:Fin q} (h:a=r*z3 ∨ a=-(r*z3)) (e:z3*z3*v*(r*r)=u):v*(a*a)=u:=by
 subst e;rcases h with rfl | rfl <;> grind (splits:=0) -lia -linarith
end
theorem Nv {a b:Fin QP} (h:a=b ∨ a=-b):oN a=oN b:=by
 rcases h with h | h
 ·rw [h]
 ·rw [h,TL]
theorem Wx {i i' x y z:Fin QP} (hi:i=i'*(z*z*z) ∨ i=-(i'*(z*z*z))):TN i' (x*z) (y*z) z (x*y*z)=TN i x y 1 (x*y):=by
 have hZ:zQ i' (x*z) (y*z) z (x*y*z)*z=zQ i x y 1 (x*y):=es1 hi;unfold TN;generalize zQ i' (x*z) (y*z) z (x*y*z)=Z' at *;generalize zQ i x y 1 (x*y)=Z at *;rw [(nB (a:=x) (b:=y) hZ).2.1];cases i6 (x*y*Z)
 ·rw [aE,aE,aE,aE,aE,aE,(nB (a:=x) (b:=y) hZ).1];apply Nv;cases i6 (x*Z)
  ·rw [aE,aE]; exact es3 hi rfl
  ·rw [aB,aB]; exact es3 hi es6
 ·rw [aB,aB,aB,aB,aB,aB,(nB (a:=y) (b:=CP.i) hZ).2.2];apply Nv;cases i6 (y*CP.i*Z)
  ·rw [aE,aE]; exact es4 hi es7
  ·rw [aB,aB]; exact es4 hi (by rw [es7,es6])
theorem Wy {x y z:Fin QP} (hz:z ≠ 0):NN (x*z) (y*z) z (x*y*z)=NN x y 1 (x*y):=by
 unfold NN;apply Wx;rw [es5];have h3:z*z*z ≠ 0:=CP.mul_ne (CP.mul_ne hz hz) hz;have s:=mS 1 (z*z*z*(z*z*z)*((1+y)*(1 - y)*(x*y*(x*y))));have s':=mS 1 ((1+y)*(1 - y)*(x*y*(x*y)));generalize wV 1 (z*z*z*(z*z*z)*((1+y)*(1 - y)*(x*y*(x*y))))=R at *;generalize wV 1 ((1+y)*(1 - y)*(x*y*(x*y)))=R' at *;generalize (1+y)*(1 - y)*(x*y*(x*y))=v at *;generalize z*z*z=z3 at *;have pm:=rT (R.1*z3);have k:RatOf 1 v (oN (R.1*z3)) R.2:=by
  refine ⟨q8 _,λ h=>es8 pm (s.yes h),λ h hv=>?_,s.nz,λ h=>?_,λ h=>(CP.h1 h).elim⟩
  ·have:=s.no h (CP.mul_ne (CP.mul_ne h3 h3) hv);exact es8 pm this
  ·have:=s.zero (by rw [h,gV]);rw [this,lB]; rfl
 rw [(s'.uniq k).1];exact pm
def ED (g:CP.G):Fin QP:=NN g.1.1 g.1.2 1 (g.1.1*g.1.2)
theorem yV {p:Pt} {g:CP.G} (h:PT p g):ph (cW p)=ED g:=by
 rw [aGC h.ok,h.x,h.y,h.t];exact Wy h.z
theorem aDU {r:RP} {g:CP.G} (h:RPT r g):fn (nJ (Eg r).1 (Eg r).2)=ED g:=by
 have hy:(Eg r).2 < aK:=mP _;obtain ⟨e1,e2⟩:=aFp h;rw [aGG hy,e1,e2];rfl
theorem aDV {x y:Nat}:nJ x y < aK:=by
 unfold nJ;exact J0 (mP _)
theorem Wz {p:Pt} {r:RP} {g:CP.G} (h:PT p g) (h':RPT r g):lo 32 (fv (cW p)%aK)=lo 32 (nJ (Eg r).1 (Eg r).2):=by
 have e:fn (fv (cW p))=fn (nJ (Eg r).1 (Eg r).2):=(yV h).trans (aDU h').symm;have:=nT.1 e;rw [aY aDV] at this;rw [this]
section
variable {q:Nat} [NeZero q]
theorem Cur.d0 (C:Cur q):C.d ≠ 0:=λ h=>C.h1 (C.nsq 0 1 (by rw [h]; grind (splits:=0) -lia -linarith))
theorem Cur.d1 (C:Cur q):C.d - 1 ≠ 0:=λ h=>C.h1 (C.nsq 1 1 (by
 have:C.d=1:=by grind (splits:=0) -lia -linarith
 rw [this]; grind (splits:=0) -lia -linarith))
theorem Cur.dm1 (C:Cur q):1+C.d ≠ 0:=λ h=>C.h1 (C.nsq C.i 1 (by
 have:C.d=-1:=by grind (splits:=0) -lia -linarith
 rw [this,C.ii]; grind (splits:=0) -lia -linarith))
theorem hm1 {d r v U n:Fin q} (hv:v=(-1 - r*d)*(r+d)) (hU:U=(r+1)*(1 - d*d)) (hn:n=-1*(r - 1)*((d - 1)*(d - 1)) - v) :
  (v+U)*(v+U)+d*((v - U)*(v - U))=(1+d)*(n*n):=by
 subst hv hU hn;grind (splits:=0) -lia -linarith
theorem hm2 {d r v U n:Fin q} (hv:v=(-1 - r*d)*(r+d)) (hU:U=r*((r+1)*(1 - d*d))) (hn:n=r*(r - 1)*((d - 1)*(d - 1)) - v) :
  (v+U)*(v+U)+d*((v - U)*(v - U))=(1+d)*(n*n):=by
 subst hv hU hn;grind (splits:=0) -lia -linarith
theorem hm3 {d n k v W m s D:Fin q} (hk:k*k=-1 - d) (hD:D=n*k) (e:v*v*(W*W+d*(m*m))=(1+d)*(n*n)):D*D=-(v*v*(W*W+d*(m*m))):=by
 subst hD;rw [e];clear e;grind (splits:=0) -lia -linarith
theorem hm4 {d v W m s D x y:Fin q} (hD:s=0 ∨ D*D=-(v*v*(W*W+d*(m*m)))) (hW:W=1+s*s) (hm:m=1 - s*s) (hx:x*D=(s+s)*v) (hy:y*W=m) :
  (y*y - x*x)*(D*D*(W*W))=(1+d*x*x*y*y)*(D*D*(W*W)):=by
 have e1:(y*y - x*x)*(D*D*(W*W))=(y*W)*(y*W)*(D*D) - (x*D)*(x*D)*(W*W):=by clear hD hW hm hx hy; grind (splits:=0) -lia -linarith
 have e2:(1+d*x*x*y*y)*(D*D*(W*W))=D*D*(W*W)+d*((x*D)*(x*D))*((y*W)*(y*W)):=by clear e1 hD hW hm hx hy; grind (splits:=0) -lia -linarith
 rw [e1,e2,hx,hy];clear e1 e2 hx hy;rcases hD with rfl | hD
 ·subst hW hm;grind (splits:=0) -lia -linarith
 ·rw [hD];clear hD;subst hW hm;grind (splits:=0) -lia -linarith
theorem hm5 {v s U W m:Fin q} (hU:v*(s*s)=U) (hW:W=1+s*s) (hm:m=1 - s*s) (d:Fin q):v*v*(W*W+d*(m*m))=(v+U)*(v+U)+d*((v - U)*(v - U)):=by
 subst hU hW hm;grind (splits:=0) -lia -linarith
theorem Cur.half_main (C:Cur q) {r u v s c n:Fin q} (hv:v=(-1 - r*C.d)*(r+C.d)) (hu:u=(r+1)*(1 - C.d*C.d)) (hn:n=c*(r - 1)*((C.d - 1)*(C.d - 1)) - v)
  (hc:(c=-1 /\ v*(s*s)=u) ∨ (c=r /\ (v ≠ 0->v*(s*s)=r*u))) (v0:v ≠ 0):v*v*((1+s*s)*(1+s*s)+C.d*((1 - s*s)*(1 - s*s)))=(1+C.d)*(n*n):=by
 rcases hc with ⟨h1,h2⟩ | ⟨h1,h2⟩
 ·rw [hm5 rfl rfl rfl C.d];exact hm1 hv (by rw [h2,hu]) (by rw [hn,h1])
 ·rw [hm5 rfl rfl rfl C.d];exact hm2 hv (by rw [h2 v0,hu]) (by rw [hn,h1])
theorem Cur.half (C:Cur q) {r u v s c n k:Fin q} (hk:k*k=-1 - C.d) (hv:v=(-1 - r*C.d)*(r+C.d)) (hu:u=(r+1)*(1 - C.d*C.d)) (hn:n=c*(r - 1)*((C.d - 1)*(C.d - 1)) - v)
  (hc:(c=-1 /\ v*(s*s)=u) ∨ (c=r /\ (v ≠ 0->v*(s*s)=r*u))) (hz:v=0->s=0) :
  n*k ≠ 0 /\ 1+s*s ≠ 0 /\ ∀ x y:Fin q,x*(n*k)=(s+s)*v->y*(1+s*s)=1 - s*s->On C.d x y:=by
 have k0:k ≠ 0:=λ h=>C.dm1 (by rw [h] at hk; grind (splits:=0) -lia -linarith);have hii:=C.ii;have main:=C.half_main hv hu hn hc;have n0:n ≠ 0:=by
  intro h0;by_cases v0:v=0
  ·rw [h0,v0] at hn;have e:c*(r - 1)*((C.d - 1)*(C.d - 1))=0:=by clear hc hz main hu; grind (splits:=0) -lia -linarith
   have hr:(-1 - r*C.d)=0 ∨ r+C.d=0:=C.noz _ _ (by rw [<-hv,v0]);have hc':c=-1 ∨ c=r:=by
    rcases hc with ⟨h1,_⟩ | ⟨h1,_⟩
    ·exact .inl h1
    ·exact .inr h1
   clear hc main hu hn hv hz;rcases C.noz _ _ e with e | e
   ·rcases C.noz _ _ e with e | e
    ·rcases hc' with h1 | h1
     ·rw [e] at h1;exact C.h1 (by clear hr e; grind (splits:=0) -lia -linarith)
     ·rw [e] at h1;subst h1;rcases hr with hr | hr
      ·exact C.h1 (by clear e; grind (splits:=0) -lia -linarith)
      ·exact C.d0 (by clear e; grind (splits:=0) -lia -linarith)
    ·have h1:r=1:=by clear hr hc' hk; grind (splits:=0) -lia -linarith
     subst h1;rcases hr with hr | hr
     ·exact C.dm1 (by clear e hc' hk; grind (splits:=0) -lia -linarith)
     ·exact C.dm1 hr
   ·rcases C.noz _ _ e with e | e <;> exact C.d1 e
  ·have m:=main v0;rw [h0] at m;have hs:(v*(1+s*s))*(v*(1+s*s))=C.d*((C.i*(v*(1 - s*s)))*(C.i*(v*(1 - s*s)))):=by
    clear hc hz main hu hn hv hk;grind (splits:=0) -lia -linarith
   have h1:=C.nsq _ _ hs;rw [h1] at hs;have h2:=(C.noz _ _ h1).resolve_left C.i_ne;have h3:v*(1+s*s)=0:=by
    rcases C.noz _ _ (hs.trans (by grind (splits:=0) -lia -linarith):_=(0:Fin q)) with h | h <;> exact h
   have h4:2*v=0:=by clear m hs h1 hc main hn hv hu hk hz; grind (splits:=0) -lia -linarith
   exact (C.noz _ _ h4).elim C.h2 v0
 have w0:1+s*s ≠ 0:=by
  intro h0;by_cases v0:v=0
  ·rw [hz v0] at h0;exact C.h1 (by clear hc hz main; grind (splits:=0) -lia -linarith)
  ·have m:=main v0;rw [h0] at m;have hs:(C.i*(k*n))*(C.i*(k*n))=C.d*((v*(1 - s*s))*(v*(1 - s*s))):=by
    have e1:(C.i*(k*n))*(C.i*(k*n))=(C.i*C.i)*(k*k)*(n*n):=by clear m hc hz main hu hn hv hk h0 hii; grind (splits:=0) -lia -linarith
    rw [e1,hii,hk];clear e1 hc hz main hu hn hv hk h0 hii;grind (splits:=0) -lia -linarith
   have h1:=C.nsq _ _ hs;have h2:=(C.noz _ _ h1).resolve_left v0;exact C.h2 (by clear m hs h1 hc main hn hv hu hk hz; grind (splits:=0) -lia -linarith)
 refine ⟨C.mul_ne n0 k0,w0,λ x y hx hy=>?_⟩;have hD:s=0 ∨ (n*k)*(n*k)=-(v*v*((1+s*s)*(1+s*s)+C.d*((1 - s*s)*(1 - s*s)))):=by
  by_cases v0:v=0
  ·exact .inl (hz v0)
  ·exact .inr (hm3 (s:=s) hk rfl (main v0))
 have D0:=C.mul_ne n0 k0;exact C.can (C.mul_ne (C.mul_ne D0 D0) (C.mul_ne w0 w0)) (hm4 hD rfl rfl hx hy)
theorem hm6 {d k n v y W m i:Fin q} (hk:k*k=-1 - d) (hy:y*W=m) (h:v*v*(W*W+d*(m*m))=(1+d)*(n*n)) (hi:W*v*i=1):k*n*i*(k*n*i)=-(1+d*(y*y)):=by
 have e1:k*n*i*(k*n*i)=k*k*(n*n)*(i*i):=by clear hk hy h hi; grind (splits:=0) -lia -linarith
 have e2:(-1 - d)*(n*n)=-((1+d)*(n*n)):=by clear hk hy h hi e1; grind (splits:=0) -lia -linarith
 have e3:-(v*v*(W*W+d*(m*m)))*(i*i)=-(1+d*(y*y))*((W*v*i)*(W*v*i)):=by
  rw [<-hy]; clear hk hy h hi e1 e2; grind (splits:=0) -lia -linarith
 rw [e1,hk,e2,<-h,e3,hi,iX,iX]
end
def hrQ (t:Fin QP):Fin QP:=CP.i*(t*t)
def TP (t:Fin QP):Fin QP:=(-1 - hrQ t*CP.d)*(hrQ t+CP.d)
def huQ (t:Fin QP):Fin QP:=(hrQ t+1)*(1 - CP.d*CP.d)
def hbQ (t:Fin QP):Bool:=(wV (huQ t) (TP t)).2
def h0Q (t:Fin QP):Fin QP:=(wV (huQ t) (TP t)).1
def Cn (t:Fin QP):Fin QP:=cond (hbQ t) (h0Q t) (-oN (h0Q t*t))
def hcQ (t:Fin QP):Fin QP:=cond (hbQ t) (-1) (hrQ t)
def hnQ (t:Fin QP):Fin QP:=hcQ t*(hrQ t - 1)*((CP.d - 1)*(CP.d - 1)) - TP t
def hkQ:Fin QP:=fn cAN
theorem aGI:hkQ*hkQ=-1 - CP.d:=by
 have:fn (cAN*cAN+1+A1)=0:=jA.2 (by decide +kernel);rw [fQ,fQ,bI,jK] at this;have e:fn cAN*fn cAN+1+CP.d=0:=this;show fn cAN*fn cAN=_;generalize CP.d=d at *;grind (splits:=0) -lia -linarith
theorem bI8:fn cMN=1 - CP.d*CP.d:=by
 have:fn (cMN+A1*A1)=fn 1:=nT.2 (by decide +kernel);rw [fQ,bI,jK] at this;have e:fn cMN+CP.d*CP.d=1:=this;generalize CP.d=d at *;grind (splits:=0) -lia -linarith
theorem bI9:fn cDN=(CP.d - 1)*(CP.d - 1):=by
 have:fn (cDN+(A1+A1))=fn (A1*A1+1):=nT.2 (by decide +kernel);rw [fQ,fQ,fQ,bI,jK] at this;have e:fn cDN+(CP.d+CP.d)=CP.d*CP.d+1:=this;generalize CP.d=d at *;grind (splits:=0) -lia -linarith
section
variable {q:Nat} [NeZero q]
theorem hb1 {v u s a t r i:Fin q} (ha:a=s*t ∨ a=-(s*t)) (hr:r=i*(t*t)) (h:v*(s*s)=i*u):v*(-a*-a)=r*u:=by
 have e:v*(-a*-a)=v*(s*s)*(t*t):=by
  rcases ha with rfl | rfl <;> clear h hr <;> grind (splits:=0) -lia -linarith
 rw [e,h,hr];clear e h hr ha;grind (splits:=0) -lia -linarith
theorem gx1 {X D i W:Fin q} (h:D*i=1):X*i*D=X /\ X*W=X*i*(D*W):=by
 constructor <;> grind (splits:=0) -lia -linarith
theorem gx2 {X D i Y W j:Fin q} (h:D*i=1) (k:W*j=1):X*W=X*i*(D*W) /\ Y*D=Y*j*(D*W) /\ X*Y=X*i*(Y*j)*(D*W):=by
 refine ⟨?_,?_,?_⟩
 ·clear k; grind (splits:=0) -lia -linarith
 ·clear h; grind (splits:=0) -lia -linarith
 ·have e:X*i*(Y*j)*(D*W)=X*Y*(D*i)*(W*j):=by clear h k; grind (splits:=0) -lia -linarith
  rw [e,h,k,iX,iX]
end
theorem HE (t:Fin QP):((hcQ t=-1 /\ TP t*(Cn t*Cn t)=huQ t) ∨ (hcQ t=hrQ t /\ (TP t ≠ 0->TP t*(Cn t*Cn t)=hrQ t*huQ t))) /\ (TP t=0->Cn t=0):=by
 have s:=mS (huQ t) (TP t);have e0:(wV (huQ t) (TP t)).1=h0Q t:=rfl;have eb:(wV (huQ t) (TP t)).2=hbQ t:=rfl;rw [e0,eb] at s;constructor
 ·have hs:Cn t=cond (hbQ t) (h0Q t) (-oN (h0Q t*t)):=rfl;have hc:hcQ t=cond (hbQ t) (-1) (hrQ t):=rfl;cases hb:hbQ t
  ·right;rw [hb,aE] at hs hc;refine ⟨hc,λ hv=>?_⟩;rw [hs];exact hb1 (rT _) rfl (s.no hb hv)
  ·left;rw [hb,aB] at hs hc;exact ⟨hc,by rw [hs]; exact s.yes hb⟩
 ·intro hv;have h0:=s.zero hv;unfold Cn;rw [h0,lB];cases hbQ t
  ·show -oN 0=0;have:oN 0=0:=rfl;rw [this]; exact Cl
  ·rfl
theorem BJ (t:Fin QP):hnQ t*hkQ ≠ 0 /\ 1+Cn t*Cn t ≠ 0 /\ ∀ x y:Fin QP,x*(hnQ t*hkQ)=(Cn t+Cn t)*TP t->y*(1+Cn t*Cn t)=1 - Cn t*Cn t->On CP.d x y :=
 CP.half (r:=hrQ t) (u:=huQ t) (c:=hcQ t) aGI rfl rfl rfl (HE t).1 (HE t).2
def gH (t:Fin QP):CP.G:=⟨((Cn t+Cn t)*TP t*NS (hnQ t*hkQ),(1 - Cn t*Cn t)*NS (1+Cn t*Cn t)),
 (BJ t).2.2 _ _ (gx1 (W:=0) (IP _ (BJ t).1)).1 (gx1 (W:=0) (IP _ (BJ t).2.1)).1⟩
set_option linter.unusedSectionVars false
section
variable {t:Fe} (ht:cS t)
include ht
theorem TQ:cS (rH t):=aL xI (aL ht ht)
omit ht in
theorem Z3:ph (rH t)=hrQ (ph t):=by
 unfold rH hrQ;rw [bG,bG,Z0]
theorem TR:cS (vH t):=aL (cR (cR qW)) (cT (TQ ht) (cA _))
theorem Z4:ph (vH t)=TP (ph t):=by
 unfold vH TP;rw [bG,jL (aL (TQ ht) qY),jL (cA 1),bG,mM,Z3,Iw,BB,bEJ,mG]
theorem aGJ:cS (uH t):=aL (cT (TQ ht) (cA 1)) (cA _)
theorem aVM:ph (uH t)=huQ (ph t):=by
 have:ph (fe cMN)=fn cMN:=xW (by decide);unfold uH huQ;rw [bG,mM,Z3,BB,this,bI8]
theorem aVN:sqH t=hbQ (ph t):=by
 unfold sqH hbQ;rw [(KQ (aGJ ht) (TR ht)).2,aVM ht,Z4 ht]
theorem bJc:ph (mC (uH t) (vH t)).1=h0Q (ph t):=by
 unfold h0Q;rw [(KQ (aGJ ht) (TR ht)).1,aVM ht,Z4 ht]
theorem aVO:cS (mC (uH t) (vH t)).1:=JO (aGJ ht) (TR ht)
theorem Nw:cS (sH t):=FS (aVO ht) (cR qW)
theorem aGK:ph (sH t)=Cn (ph t):=by
 have h:=aL (aVO ht) ht;unfold sH Cn;rw [Cm,jL (JP h),Pb h,bG,bJc ht,aVN ht,Iw,mG]
theorem bGm:cS (cH t):=FS (cR qW) (TQ ht)
theorem bGn:ph (cH t)=hcQ (ph t):=by
 unfold cH hcQ;rw [Cm,jL (cA 1),Z3,aVN ht,Iw,BB,mG]
theorem bGo:cS (nH t):=cR (aL (aL (bGm ht) (cR (TQ ht))) (cA _))
theorem bGp:ph (nH t)=hnQ (ph t):=by
 have:ph (fe cDN)=fn cDN:=xW (by decide);unfold nH hnQ;rw [jL (TR ht),bG,bG,bGn ht,jL (cA 1),Z3,Z4 ht,BB,this,bI9]
theorem aGL:cS (w0H t):=aL (cT (Nw ht) (Nw ht)) (TR ht)
theorem aYP:ph (w0H t)=(Cn (ph t)+Cn (ph t))*TP (ph t):=by
 unfold w0H;rw [bG,mM,aGK ht,Z4 ht]
theorem aGM:cS (w1H t):=aL (bGo ht) (cA _)
theorem aYQ:ph (w1H t)=hnQ (ph t)*hkQ:=by
 have:ph (fe cAN)=hkQ:=xW (by decide);unfold w1H;rw [bG,bGp ht,this]
omit ht in
theorem aGN:cS (w2H t):=cR (cA 1)
theorem aYR:ph (w2H t)=1 - Cn (ph t)*Cn (ph t):=by
 unfold w2H;rw [jL (aL (Nw ht) (Nw ht)),bG,aGK ht,BB]
theorem aGO:cS (w3H t):=cT (cA 1) (aL (Nw ht) (Nw ht))
theorem aYS:ph (w3H t)=1+Cn (ph t)*Cn (ph t):=by
 unfold w3H;rw [mM,bG,aGK ht,BB]
theorem TS:nG (o9 t):=⟨aL (aGL ht) (aGO ht),aL (aGN) (aGM ht),aL (aGM ht) (aGO ht),aL (aGL ht) (aGN)⟩
theorem Z5:PT (o9 t) (gH (ph t)):=by
 have k1:=IP _ (BJ (ph t)).1;have k2:=IP _ (BJ (ph t)).2.1;have n0:=CP.mul_ne (BJ (ph t)).1 (BJ (ph t)).2.1;have e0:=aYP ht;have e1:=aYQ ht;have e2:=aYR ht;have e3:=aYS ht;refine ⟨TS ht,?_,?_,?_,?_⟩
 ·show ph (aN _ _) ≠ 0;rw [bG,e1,e3]; exact n0
 ·show ph (aN _ _)=_*ph (aN _ _);rw [bG,bG,e0,e1,e3]; exact (gx2 (Y:=0) k1 k2).1
 ·show ph (aN _ _)=_*ph (aN _ _);rw [bG,bG,e2,e1,e3]; exact (gx2 (X:=0) k1 k2).2.1
 ·show ph (aN _ _)=_*_*ph (aN _ _);rw [bG,bG,e0,e2,e1,e3]; exact (gx2 k1 k2).2.2
end
section
variable {t:Nat}
end
end Go.Eng
