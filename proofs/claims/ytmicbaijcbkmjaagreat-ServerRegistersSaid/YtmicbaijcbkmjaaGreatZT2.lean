import Derived.Test.YtmicbaijcbkmjaaGreatZT1
namespace Go.Eng
set_option linter.unusedVariables false
def k6 (a:Fin QP):Bool:=Nat.beq (a.val%2) 1
def qA (a:Fin QP):Fin QP:=cond (k6 a) (-a) a
theorem aKN {a:Fin QP} (h:a ≠ 0):(-a).val=aJ - a.val:=by
 have h1:fn (aJ - a.val)+a=0:=by
  have:fn (aJ - a.val)+fn a.val=0:=by
   rw [<-qL,PU (Hn (Vh a))];exact aB8 (Nat.dvd_refl _)
  rwa [mE] at this
 have h2:-a=fn (aJ - a.val):=by grind (splits:=0) -lia -linarith
 rw [h2,aRL,aV];have h3:a.val ≠ 0:=λ e=>h (by rw [<-mE a,e,t7]);have:=Vh a;omega
theorem Dh {a:Fin QP} (h:a ≠ 0):k6 (-a)=!k6 a:=by
 have h1:=aKN h;have h3:=Vh a;unfold k6;rw [h1];have e:(aJ - a.val)%2=1 - a.val%2:=by
  have:aJ%2=1:=by decide
  generalize aJ=p at *;omega
 rw [e];rcases Nat.mod_two_eq_zero_or_one a.val with h | h <;> rw [h] <;> rfl
theorem LM:(-(0:Fin QP))=0:=by grind (splits:=0) -lia -linarith
theorem Z3:k6 0=false:=rfl
theorem LO (a:Fin QP):k6 (qA a)=false:=by
 unfold qA;cases h:k6 a
 ·exact h
 ·by_cases h0:a=0
  ·rw [h0,Z3] at h; cases h
  ·show k6 (-a)=false;rw [Dh h0,h]; rfl
theorem HL (a:Fin QP):qA a=a ∨ qA a=-a:=by
 unfold qA;cases k6 a
 ·exact .inl rfl
 ·exact .inr rfl
theorem Q3 (a:Fin QP):qA (-a)=qA a:=by
 by_cases h0:a=0
 ·rw [h0,LM]
 ·unfold qA;rw [Dh h0];cases k6 a
  ·show -(-a)=a;grind (splits:=0) -lia -linarith
  ·rfl
theorem Wx {a:Fin QP} (h:k6 a=false):qA a=a:=by unfold qA; rw [h]; rfl
theorem Wy {a b:Fin QP} (ha:k6 a=false) (hb:k6 b=false) (h:a=b ∨ a=-b):a=b:=by
 rcases h with h | h
 ·exact h
 ·have:=Q3 b;rw [<-h,Wx ha,Wx hb] at this;exact this
theorem aYm (C:Cur QP) {a b:Fin QP} (h:a*a=b*b):a=b ∨ a=-b:=by
 have:(a - b)*(a+b)=0:=by grind (splits:=0) -lia -linarith
 rcases C.noz _ _ this with h | h
 ·left; grind (splits:=0) -lia -linarith
 ·right; grind (splits:=0) -lia -linarith
theorem aTV:iNQ ^ hQN%aJ=aJ - 1:=by
 rw [<-Qb iNQ aJ 256 hQN (by decide +kernel)];decide +kernel
theorem aYn (a b:Fin QP) (h:a*a=CP.i*(b*b)):b=0:=by
 have h:a*a=fn iNQ*(b*b):=h;rw [<-mE a,<-mE b,<-bQ,<-bQ,<-bQ,tZ] at h;rw [<-mE b];exact nD.2 (aXB (h:=hQN) prP (by decide) (by decide) aTV h)
structure RatOf (u v r:Fin QP) (b:Bool):Prop where
 even:k6 r=false
 yes:b=true->v*(r*r)=u
 no:b=false->v ≠ 0->v*(r*r)=CP.i*u
 nz:b=false->u ≠ 0
 zero:v=0->r=0
 zu:u=0->r=0
theorem RatOf.uniq {u v r r':Fin QP} {b b':Bool} (h:RatOf u v r b) (h':RatOf u v r' b'):r=r' /\ b=b':=by
 have main:∀ {r r':Fin QP} {b b':Bool},RatOf u v r b->RatOf u v r' b'->b=true->b'=false->False:=by
  intro r r' b b' h h' e e';have h1:=h.yes e;have hu:=h'.nz e';by_cases hv:v=0
  ·rw [hv,q9] at h1; exact hu h1.symm
  ·have h2:=h'.no e' hv;have h3:(v*r')*(v*r')=CP.i*((v*r)*(v*r)):=by
    rw [<-h1] at h2;clear h1;grind (splits:=0) -lia -linarith
   have h4:=aYn _ _ h3;rcases CP.noz _ _ h4 with h5 | h5
   ·exact hv h5
   ·rw [h5,q9,jY] at h1; exact hu h1.symm
 have eb:b=b':=by
  cases b <;> cases b'
  ·rfl
  ·exact (main h' h rfl rfl).elim
  ·exact (main h h' rfl rfl).elim
  ·rfl
 refine ⟨?_,eb⟩;subst eb;by_cases hv:v=0
 ·rw [h.zero hv,h'.zero hv]
 ·refine Wy h.even h'.even (aYm CP ?_);have e:v*(r*r)=v*(r'*r'):=by
   cases b
   ·rw [h.no rfl hv,h'.no rfl hv]
   ·rw [h.yes rfl,h'.yes rfl]
  exact CP.can hv (by rw [PD,e,PD])
theorem UE {z:Fe} (hz:cN z):ph (wJ z)=qA (ph z):=by
 have hv:=HF hz NL;have h1:wJ z=cond (Nat.beq (fv z%aJ%2) 1) (cJ f0 z) z:=rfl;rw [h1];unfold qA k6;have h2:(ph z).val=fv z%aJ:=rfl;rw [h2];cases Nat.beq (fv z%aJ%2) 1
 ·rfl
 ·show ph (cJ f0 z)=-ph z;rw [mF hz,P7];grind (splits:=0) -lia -linarith
theorem Ns (z:Fe):oX z=k6 (ph z):=rfl
theorem aO3 {a b:Nat} (h:cg (a:Int) (b:Int)):fn a=fn b:=tZ.2 (mG.1 h)
theorem aEF {a b:Nat} (h:cg (a:Int) (-(b:Int))):fn a=-fn b:=by
 have h1:=h.add (cg.refl (b:Int));rw [<-fZ,Int.add_left_neg] at h1;have h2:fn (a+b)=0:=nD.2 (pL.1 h1);rw [qL] at h2;grind (splits:=0) -lia -linarith
theorem aEG {U V R:Int} {e:Nat} (he:8*e+4=aJ - 1) (hU:¬ cg U 0) (hV:¬ cg V 0) (hR:cg R (U*(V*V*V)*(U*(V*V*V*(V*V*V)*V)) ^ e)) :
  cg (V*(R*R)) U ∨ cg (V*(R*R)) (-U) ∨ cg (V*(R*R)) (iZ*U) ∨ cg (V*(R*R)) (-(iZ*U)):=by
 have hW:¬ cg (U*(V*V*V*(V*V*V)*V)) 0:=λ h=>by
  rcases mU h with h | h
  ·exact hU h
  rcases mU h with h | h
  ·rcases mU h with h | h <;>
   ·rcases mU h with h | h
    ·rcases mU h with h | h <;> exact hV h
    ·exact hV h
  ·exact hV h
 have h1:cg (V*(R*R)) (U*(U*(V*V*V*(V*V*V)*V)) ^ (2*e+1)):=by
  have h:=(cg.refl V).mul (hR.mul hR);have e1:V*(U*(V*V*V)*(U*(V*V*V*(V*V*V)*V)) ^ e*(U*(V*V*V)*(U*(V*V*V*(V*V*V)*V)) ^ e))=U*(U*(V*V*V*(V*V*V)*V)) ^ (2*e+1):=by
   rw [show 2*e+1=e+e+1 by omega,vF,Cw];generalize (U*(V*V*V*(V*V*V)*V)) ^ e=K;grind
  rwa [e1] at h
 have hh:=Wh hW (4*e+2) (by omega);rw [show 4*e+2=(2*e+1)+(2*e+1) by omega,Cw] at hh;generalize (U*(V*V*V*(V*V*V)*V)) ^ (2*e+1)=X at *;have j8:∀ c:Int,cg X c->cg (V*(R*R)) (c*U):=λ c hc=>by
  have:=h1.trans ((cg.refl U).mul hc);rwa [Int.mul_comm U c] at this
 rcases hh with h | h
 ·have h':cg (X*X) (1*1):=h;rcases Qe h' with h | h
  ·have:=j8 _ h;rw [rE] at this;exact .inl this
  ·have:=j8 _ h;rw [rD,rE] at this;exact .inr (.inl this)
 ·rcases Qe (h.trans V4.symm) with h | h
  ·exact .inr (.inr (.inl (j8 _ h)))
  ·have:=j8 _ h;rw [rD] at this;exact .inr (.inr (.inr this))
theorem aEH:ph iF=CP.i:=B8 (by decide)
section
variable {q:Nat} [NeZero q]
theorem rx1 {v R u i a:Fin q} (h:v*(R*R)=u) (ha:a=R ∨ a=-R):v*(a*a)=u:=by
 rcases ha with rfl | rfl <;> grind (splits:=0) -lia -linarith
theorem rx2 {v R u i a:Fin q} (hi:i*i=-1) (h:v*(R*R)=-u) (ha:a=R*i ∨ a=-(R*i)):v*(a*a)=u:=by
 rcases ha with rfl | rfl <;> grind (splits:=0) -lia -linarith
theorem rx3 {v R u i a:Fin q} (hi:i*i=-1) (h:v*(R*R)=-(i*u)) (ha:a=R*i ∨ a=-(R*i)):v*(a*a)=i*u:=by
 rcases ha with rfl | rfl <;> grind (splits:=0) -lia -linarith
end
theorem aEI {x y:Fe} (h:ph x=0 ∨ ph y=0):ph (dO x y)=0:=by
 unfold dO;rw [bL,bL,bL];rcases h with h | h <;> rw [h] <;> grind (splits:=0) -lia -linarith
theorem Q4 {x y:Fe} (hx:cN x) (hy:cN y):RatOf (ph x) (ph y) (ph (mI x y).1) (mI x y).2:=by
 have hR:cN (dO x y):=Ms hx hy;have hA:kO (aO y (aO (dO x y) (dO x y))) x=true ↔ ph y*(ph (dO x y)*ph (dO x y))=ph x:=by rw [II,bL,bL]
 have hB:kO (aO y (aO (dO x y) (dO x y))) (cJ f0 x)=true ↔ ph y*(ph (dO x y)*ph (dO x y))=-ph x:=by
  rw [II,bL,bL,mF hx,P7];constructor <;> intro h <;> rw [h] <;> grind (splits:=0) -lia -linarith
 have hD:kO (aO y (aO (dO x y) (dO x y))) (aO (cJ f0 x) iF)=true ↔ ph y*(ph (dO x y)*ph (dO x y))=-(CP.i*ph x):=by
  rw [II,bL,bL,bL,mF hx,P7,aEH];constructor <;> intro h <;> rw [h] <;> grind (splits:=0) -lia -linarith
 have hQ:ph (aO (dO x y) iF)=ph (dO x y)*CP.i:=by rw [bL,aEH]
 have oQ:cN (aO (dO x y) iF):=aL hR wD;have h0:ph x=0 ∨ ph y=0->ph (dO x y)=0:=aEI;have h4:ph x ≠ 0->ph y ≠ 0->ph y*(ph (dO x y)*ph (dO x y))=ph x ∨ ph y*(ph (dO x y)*ph (dO x y))=-ph x ∨ ph y*(ph (dO x y)*ph (dO x y))=CP.i*ph x ∨ ph y*(ph (dO x y)*ph (dO x y))=-(CP.i*ph x):=by
  intro gx gy;have hU:¬ cg (fv x:Int) 0:=λ h=>gx (nD.2 (pL.1 h));have hV:¬ cg (fv y:Int) 0:=λ h=>gy (nD.2 (pL.1 h));have c3:cg (fv (aO (aO y y) y):Int) ((fv y:Int)*fv y*fv y):=(gK _ y).trans ((gK y y).mul (cg.refl _));have c7:cg (fv (aO x (aO (aO (aO (aO y y) y) (aO (aO y y) y)) y)):Int) ((fv x:Int)*((fv y:Int)*fv y*fv y*((fv y:Int)*fv y*fv y)*fv y)) :=
   (gK x _).trans ((cg.refl _).mul ((gK _ y).trans (((gK _ _).trans (c3.mul c3)).mul (cg.refl _))))
  have cr:cg (fv (dO x y):Int) ((fv x:Int)*((fv y:Int)*fv y*fv y)*((fv x:Int)*((fv y:Int)*fv y*fv y*((fv y:Int)*fv y*fv y)*fv y)) ^ lR 253 252) :=
   (gK _ _).trans (((gK x _).trans ((cg.refl _).mul c3)).mul ((Wg _ 253 252).trans (c7.pow _)))
  have f:=aEG aNA hU hV cr;have e1:fn (fv y*(fv (dO x y)*fv (dO x y)))=ph y*(ph (dO x y)*ph (dO x y)):=by rw [bQ,bQ]; rfl
  have e2:fn (iNQ*fv x)=CP.i*ph x:=by rw [bQ]; rfl
  have z1:((fv y:Int)*((fv (dO x y):Int)*(fv (dO x y):Int)))=((fv y*(fv (dO x y)*fv (dO x y)):Nat):Int):=by rw [oA,oA]
  have z2:iZ*(fv x:Int)=((iNQ*fv x:Nat):Int):=by rw [oA]; rfl
  rw [z1,z2] at f;rcases f with f | f | f | f
  ·exact .inl (e1.symm.trans (aO3 f))
  ·exact .inr (.inl (e1.symm.trans (aEF f)))
  ·exact .inr (.inr (.inl (e1.symm.trans ((aO3 f).trans e2))))
  ·exact .inr (.inr (.inr (e1.symm.trans ((aEF f).trans (by rw [e2])))))
 unfold mI;generalize kO (aO y (aO (dO x y) (dO x y))) x=A at *;generalize kO (aO y (aO (dO x y) (dO x y))) (cJ f0 x)=B at *;generalize kO (aO y (aO (dO x y) (dO x y))) (aO (cJ f0 x) iF)=D at *;generalize aO (dO x y) iF=Q at *;generalize dO x y=R at *;have oC:cN (cond (B || D) Q R):=by
  cases (B || D)
  ·exact hR
  ·exact oQ
 have hab:=UE oC;show RatOf (ph x) (ph y) (ph (wJ (cond (B || D) Q R))) (A || B);rw [hab];have pm:=HL (ph (cond (B || D) Q R));have ev:=LO (ph (cond (B || D) Q R));have z0:ph R=0->qA (ph (cond (B || D) Q R))=0:=by
  intro h;have:ph (cond (B || D) Q R)=0:=by
   cases (B || D)
   ·exact h
   ·show ph Q=0;rw [hQ,h,q9]
  rw [this]; rfl
 clear hab;have hii:=CP.ii;have hi0:=CP.i_ne;have key:∀ {c d:Fin QP},ph x ≠ 0->c*ph x=d*ph x->c=d:=λ h e=>CP.can h e;have one:(1:Fin QP)*ph x=ph x:=Fin.one_mul _;refine ⟨ev,λ hb=>?_,λ hb hv=>?_,λ hb hu=>?_,λ hv=>z0 (h0 (.inr hv)),λ hu=>z0 (h0 (.inl hu))⟩
 ·-- a square
  cases B
  ·rw [Bool.or_false] at hb;have h1:=hA.1 hb;cases D
   ·exact rx1 (i:=CP.i) h1 pm
   ·have h2:=hD.1 rfl;have hx0:ph x=0:=by
     by_cases gx:ph x=0
     ·exact gx
     ·exfalso;have h3:CP.i*ph x=-1*ph x:=by
       rw [h1] at h2;grind (splits:=0) -lia -linarith
      have h4:=key gx h3;rw [h4] at hii;have:(2:Fin QP)=0:=by grind (splits:=0) -lia -linarith
      exact CP.h2 this
    rw [z0 (h0 (.inl hx0)),hx0,q9,jY]
  ·have h1:=hB.1 rfl;have pm':qA (ph (cond (true || D) Q R))=ph R*CP.i ∨ qA (ph (cond (true || D) Q R))=-(ph R*CP.i):=by
    rw [<-hQ]; exact pm
   exact rx2 hii h1 pm'
 ·-- none
  rw [Cv] at hb;obtain ⟨rfl,rfl⟩:=hb;by_cases gx:ph x=0
  ·rw [z0 (h0 (.inl gx)),gx];grind (splits:=0) -lia -linarith
  rcases h4 gx hv with f | f | f | f
  ·exact absurd (hA.2 f) (by simp)
  ·exact absurd (hB.2 f) (by simp)
  ·cases D
   ·exact rx1 (i:=CP.i) f pm
   ·have h2:=hD.1 rfl;exfalso;rw [f] at h2;have h3:CP.i*ph x+CP.i*ph x=0:=by grind (splits:=0) -lia -linarith
    exact aCh CP (CP.mul_ne hi0 gx) h3
  ·have hD':=hD.2 f;subst hD';have pm':qA (ph (cond (false || true) Q R))=ph R*CP.i ∨ qA (ph (cond (false || true) Q R))=-(ph R*CP.i):=by
    rw [<-hQ]; exact pm
   exact rx3 hii f pm'
 ·rw [Cv] at hb;obtain ⟨rfl,_⟩:=hb;have:(false:Bool)=true:=hA.2 (by rw [h0 (.inl hu),hu]; grind (splits:=0) -lia -linarith);cases this
def Di (u v:Fin QP):Fin QP × Bool:=(ph (mI (fe u.val) (fe v.val)).1,(mI (fe u.val) (fe v.val)).2)
theorem aEJ (a:Fin QP):ph (fe a.val)=a:=by rw [B8 (Vh a),mE]
theorem wH (u v:Fin QP):RatOf u v (Di u v).1 (Di u v).2:=by
 have:=Q4 (cV u.val) (cV v.val);rwa [aEJ,aEJ] at this
theorem UF {x y:Fe} (hx:cN x) (hy:cN y):ph (mI x y).1=(Di (ph x) (ph y)).1 /\ (mI x y).2=(Di (ph x) (ph y)).2:=(Q4 hx hy).uniq (wH _ _)
theorem aEK {u v:Nat} (hu:u < aJ) (hv:v < aJ):fn (Bh u v).1=(Di (fn u) (fn v)).1 /\ (Bh u v).2=(Di (fn u) (fn v)).2:=by
 have eu:fv (fe u)=u:=CF (fC hu (by decide));have ev:fv (fe v)=v:=CF (fC hv (by decide));have h:=aHK (cV u) (cV v) (by rw [eu]; exact hu) (by rw [ev]; exact hv);rw [eu,ev] at h;have k:=UF (cV u) (cV v);rw [B8 hu,B8 hv] at k;rw [<-h.1,<-h.2,bR];exact k
def cO:Fin QP:=fn Yl
def zQ (i x y z t:Fin QP):Fin QP:=i*((z+y)*(z - y))*(i*(x*y))*t
def Z4 (i x y z t:Fin QP):Fin QP :=
 qA (cond (k6 (t*zQ i x y z t)) (i*((z+y)*(z - y))*cO) (i*(x*y)) *
  (z - cond (k6 (cond (k6 (t*zQ i x y z t)) (y*CP.i) x*zQ i x y z t)) (-(cond (k6 (t*zQ i x y z t)) (x*CP.i) y)) (cond (k6 (t*zQ i x y z t)) (x*CP.i) y)))
def Q5 (x y z t:Fin QP):Fin QP:=Z4 (Di 1 ((z+y)*(z - y)*(x*y*(x*y)))).1 x y z t
theorem tB (a:Fin QP):0 - a=-a:=by grind (splits:=0) -lia -linarith
theorem HM (b:Bool) (x y:Fe):ph (cond b x y)=cond b (ph x) (ph y):=by cases b <;> rfl
theorem aEL {p:Pt} (hp:qF p):ph (i3 p)=Q5 (ph p.x) (ph p.y) (ph p.z) (ph p.t):=by
 have k1:=Hs hp;have k2:=Ep hp;have h1:ph (u1E p)=(ph p.z+ph p.y)*(ph p.z - ph p.y):=by unfold u1E; rw [bL,oV,mF hp.2.1]
 have h2:ph (VP p)=ph p.x*ph p.y:=by unfold VP; rw [bL]
 have h3:ph (C5 p)=(Di 1 ((ph p.z+ph p.y)*(ph p.z - ph p.y)*(ph p.x*ph p.y*(ph p.x*ph p.y)))).1:=by
  unfold C5;rw [(UF (cV 1) (aL k1 (aL k2 k2))).1,IJ,bL,bL,h1,h2]
 unfold Q5;rw [<-h3];have h4:ph (ziE p)=zQ (ph (C5 p)) (ph p.x) (ph p.y) (ph p.z) (ph p.t):=by
  unfold ziE zQ;rw [bL,bL,bL,bL,h1,h2]
 have h5:Em p=k6 (ph p.t*zQ (ph (C5 p)) (ph p.x) (ph p.y) (ph p.z) (ph p.t)):=by
  unfold Em;rw [Ns,bL,h4]
 have hc:ph (fe Yl)=cO:=B8 (by decide);unfold Z4 i3;rw [UE (aL (ME hp) (cL hp.2.2.1)),bL,mF (aBg hp)];unfold y2E;rw [HM,mF (aBf hp),P7,tB,Ns,bL,h4];unfold xE yE MA;rw [HM,HM,HM,bL,bL,bL,bL,bL,h1,h2,aEH,hc,h5]
theorem aO4:fn iN=CP.i:=rfl
theorem Dj (b:Bool) (x y:Nat):fn (cond b x y)=cond b (fn x) (fn y):=by cases b <;> rfl
theorem Nt (n:Nat):Nat.beq (n%aJ%2) 1=k6 (fn n):=rfl
theorem Wz {n:Nat} (h:n < aJ):Nat.beq (n%2) 1=k6 (fn n):=by rw [<-Nt,aV h]
theorem W0 {n:Nat} (h:n < aJ):fn (oY n)=qA (fn n):=by
 unfold oY qA;rw [Dj,Wz h,bR,uF h,t7,tB]
theorem Q6 {u v:Nat} (hu:u < aJ) (hv:v < aJ):(Bh u v).1 < aJ:=by
 have eu:fv (fe u)=u:=CF (fC hu (by decide));have ev:fv (fe v)=v:=CF (fC hv (by decide));have h:=(aHK (cV u) (cV v) (by rw [eu]; exact hu) (by rw [ev]; exact hv)).1;rw [eu,ev] at h;rw [<-h];exact mP _
section
variable {x y:Nat} (hx:x < aJ) (hy:y < aJ)
theorem aEM (hy:y < aJ):fn (Sl x y)=(1+fn y)*(1 - fn y):=by
 unfold Sl;rw [bR,bQ,bR,qL,bR,uF hy,oU]
theorem aKO (hy:y < aJ):fn (xC x y)=(Di 1 ((1+fn y)*(1 - fn y)*(fn x*fn y*(fn x*fn y)))).1:=by
 have hv:Sl x y*(x*y%aJ*(x*y%aJ)%aJ)%aJ < aJ:=mP _;unfold xC;rw [(aEK (by decide) hv).1,oU,bR,bQ,aEM hy,bR,bQ,bR,bQ]
theorem aYo (hy:y < aJ):fn (VR x y)=zQ (fn (xC x y)) (fn x) (fn y) 1 (fn x*fn y):=by
 unfold VR zQ;rw [bR,bQ,bR,bQ,bR,bQ,bR,bQ,bR,bQ,aEM hy]
theorem aTW (hy:y < aJ):En x y=k6 (fn x*fn y*fn (VR x y)):=by
 unfold En;rw [Nt,bQ,bR,bQ]
theorem aYp:fn (xR x y)=cond (En x y) (fn y*CP.i) (fn x):=by
 unfold xR;rw [Dj,bR,bQ,aO4]
theorem aYq:fn (yR x y)=cond (En x y) (fn x*CP.i) (fn y):=by
 unfold yR;rw [Dj,bR,bQ,aO4]
theorem aKP (hy:y < aJ):fn (PX x y)=cond (En x y) (fn (xC x y)*((1+fn y)*(1 - fn y))*cO) (fn (xC x y)*(fn x*fn y)):=by
 have:fn Yl=cO:=rfl;unfold PX;rw [Dj,bR,bQ,bR,bQ,bR,bQ,bR,bQ,aEM hy,this]
theorem Dk {b:Bool} {x y n:Nat} (hx:x < n) (hy:y < n):cond b x y < n:=by
 cases b
 ·exact hy
 ·exact hx
theorem aEN (hy:y < aJ):yR x y < aJ:=by
 unfold yR;exact Dk (mP _) hy
theorem aEO (hy:y < aJ):y2R x y < aJ:=by
 unfold y2R;exact Dk (mP _) (aEN hy)
theorem aTX (hy:y < aJ):fn (y2R x y)=cond (k6 (fn (xR x y)*fn (VR x y))) (-(fn (yR x y))) (fn (yR x y)):=by
 unfold y2R;rw [Dj,bR,uF (aEN hy),t7,tB,Nt,bQ]
theorem Z5 (hy:y < aJ):fn (kC x y)=qA (fn (PX x y)*(1 - fn (y2R x y))):=by
 unfold kC;rw [W0 (mP _),bR,bQ,bR,uF (aEO hy),oU]
theorem aEP (hy:y < aJ):fn (kC x y)=Q5 (fn x) (fn y) 1 (fn x*fn y):=by
 unfold Q5;rw [<-aKO hy];unfold Z4;rw [<-aYo hy,<-aTW hy,<-aYp,<-aYq,<-aTX hy,<-aKP hy,Z5 hy]
end
section
variable {q:Nat} [NeZero q]
theorem es1 {i i' x y z:Fin q} (hi:i=i'*(z*z*z) ∨ i=-(i'*(z*z*z))):i'*((z+y*z)*(z - y*z))*(i'*(x*z*(y*z)))*(x*y*z)*z=i*((1+y)*(1 - y))*(i*(x*y))*(x*y):=by
 rcases hi with rfl | rfl <;> grind (splits:=0) -lia -linarith
theorem lI {a b Z Z' z:Fin q} (h:Z'*z=Z):a*z*Z'=a*Z /\ a*b*z*Z'=a*b*Z /\ a*z*b*Z'=a*b*Z:=by
 subst h;refine ⟨?_,?_,?_⟩ <;> grind (splits:=0) -lia -linarith
theorem es3 {i i' x y z w w':Fin q} (hi:i=i'*(z*z*z) ∨ i=-(i'*(z*z*z))) (hw:w'=w*z):i'*(x*z*(y*z))*(z - w')=i*(x*y)*(1 - w) ∨ i'*(x*z*(y*z))*(z - w')=-(i*(x*y)*(1 - w)):=by
 subst hw;rcases hi with rfl | rfl
 ·left; grind (splits:=0) -lia -linarith
 ·right; grind (splits:=0) -lia -linarith
theorem es4 {i i' y z w w' c:Fin q} (hi:i=i'*(z*z*z) ∨ i=-(i'*(z*z*z))) (hw:w'=w*z):i'*((z+y*z)*(z - y*z))*c*(z - w')=i*((1+y)*(1 - y))*c*(1 - w) ∨ i'*((z+y*z)*(z - y*z))*c*(z - w')=-(i*((1+y)*(1 - y))*c*(1 - w)):=by
 subst hw;rcases hi with rfl | rfl
 ·left; grind (splits:=0) -lia -linarith
 ·right; grind (splits:=0) -lia -linarith
theorem es5 {x y z:Fin q}:(z+y*z)*(z - y*z)*(x*z*(y*z)*(x*z*(y*z)))=z*z*z*(z*z*z)*((1+y)*(1 - y)*(x*y*(x*y))):=by grind (splits:=0) -lia -linarith
theorem es6 {x z:Fin q}:-(x*z)=-x*z:=by grind (splits:=0) -lia -linarith
theorem es7 {x z i:Fin q}:x*z*i=x*i*z:=by grind (splits:=0) -lia -linarith
theorem es8 {v r z3 a u:Fin q} (h:a=r*z3 ∨ a=-(r*z3)) (e:z3*z3*v*(r*r)=u):v*(a*a)=u:=by
 subst e;rcases h with rfl | rfl <;> grind (splits:=0) -lia -linarith
end
theorem LP {a b:Fin QP} (h:a=b ∨ a=-b):qA a=qA b:=by
 rcases h with h | h
 ·rw [h]
 ·rw [h,Q3]
theorem UG {i i' x y z:Fin QP} (hi:i=i'*(z*z*z) ∨ i=-(i'*(z*z*z))):Z4 i' (x*z) (y*z) z (x*y*z)=Z4 i x y 1 (x*y):=by
 have hZ:zQ i' (x*z) (y*z) z (x*y*z)*z=zQ i x y 1 (x*y):=es1 hi;unfold Z4;generalize zQ i' (x*z) (y*z) z (x*y*z)=Z' at *;generalize zQ i x y 1 (x*y)=Z at *;rw [(lI (a:=x) (b:=y) hZ).2.1];cases k6 (x*y*Z)
 ·rw [aD,aD,aD,aD,aD,aD,(lI (a:=x) (b:=y) hZ).1];apply LP;cases k6 (x*Z)
  ·rw [aD,aD]; exact es3 hi rfl
  ·rw [aB,aB]; exact es3 hi es6
 ·rw [aB,aB,aB,aB,aB,aB,(lI (a:=y) (b:=CP.i) hZ).2.2];apply LP;cases k6 (y*CP.i*Z)
  ·rw [aD,aD]; exact es4 hi es7
  ·rw [aB,aB]; exact es4 hi (by rw [es7,es6])
theorem UH {x y z:Fin QP} (hz:z ≠ 0):Q5 (x*z) (y*z) z (x*y*z)=Q5 x y 1 (x*y):=by
 unfold Q5;apply UG;rw [es5];have h3:z*z*z ≠ 0:=CP.mul_ne (CP.mul_ne hz hz) hz;have s:=wH 1 (z*z*z*(z*z*z)*((1+y)*(1 - y)*(x*y*(x*y))));have s':=wH 1 ((1+y)*(1 - y)*(x*y*(x*y)));generalize Di 1 (z*z*z*(z*z*z)*((1+y)*(1 - y)*(x*y*(x*y))))=R at *;generalize Di 1 ((1+y)*(1 - y)*(x*y*(x*y)))=R' at *;generalize (1+y)*(1 - y)*(x*y*(x*y))=v at *;generalize z*z*z=z3 at *;have pm:=HL (R.1*z3);have k:RatOf 1 v (qA (R.1*z3)) R.2:=by
  refine ⟨LO _,λ h=>es8 pm (s.yes h),λ h hv=>?_,s.nz,λ h=>?_,λ h=>(CP.h1 h).elim⟩
  ·have:=s.no h (CP.mul_ne (CP.mul_ne h3 h3) hv);exact es8 pm this
  ·have:=s.zero (by rw [h,jY]);rw [this,q9]; rfl
 rw [(s'.uniq k).1];exact pm
def aYr (g:CP.G):Fin QP:=Q5 g.1.1 g.1.2 1 (g.1.1*g.1.2)
theorem aEQ {p:Pt} {g:CP.G} (h:PT p g):ph (i3 p)=aYr g:=by
 rw [aEL h.ok,h.x,h.y,h.t];exact UH h.z
theorem Z6 {r:RP} {g:CP.G} (h:RPT r g):fn (kC (Bf r).1 (Bf r).2)=aYr g:=by
 have hy:(Bf r).2 < aJ:=mP _;obtain ⟨e1,e2⟩:=Z8 h;rw [aEP hy,e1,e2];rfl
theorem Z7 {x y:Nat}:kC x y < aJ:=by
 unfold kC;exact Gy (mP _)
theorem UI {p:Pt} {r:RP} {g:CP.G} (h:PT p g) (h':RPT r g):lo 32 (fv (i3 p)%aJ)=lo 32 (kC (Bf r).1 (Bf r).2):=by
 have e:fn (fv (i3 p))=fn (kC (Bf r).1 (Bf r).2):=(aEQ h).trans (Z6 h').symm;have:=tZ.1 e;rw [aV Z7] at this;rw [this]
section
variable {q:Nat} [NeZero q]
theorem Cur.d0 (C:Cur q):C.d ≠ 0:=λ h=>C.h1 (C.nsq 0 1 (by rw [h]; grind (splits:=0) -lia -linarith))
theorem Cur.d1 (C:Cur q):C.d - 1 ≠ 0:=λ h=>C.h1 (C.nsq 1 1 (by
 have:C.d=1:=by grind (splits:=0) -lia -linarith
 rw [this]; grind (splits:=0) -lia -linarith))
end
section
variable {q:Nat} [NeZero q]
theorem hb1 {v u s a t r i:Fin q} (ha:a=s*t ∨ a=-(s*t)) (hr:r=i*(t*t)) (h:v*(s*s)=i*u):v*(-a*-a)=r*u:=by
 have e:v*(-a*-a)=v*(s*s)*(t*t):=by
  rcases ha with rfl | rfl <;> clear h hr <;> grind (splits:=0) -lia -linarith
 rw [e,h,hr];clear e h hr ha;grind (splits:=0) -lia -linarith
end
set_option linter.unusedSectionVars false
section
variable {t:Fe} (ht:cN t)
include ht
theorem W5:cN (rH t):=aL wD (aL ht ht)
theorem aO5:cN (vH t):=aL (cL (cL tC)) (cD (W5 ht) (cV _))
theorem aYs:cN (uH t):=aL (cD (W5 ht) (cV 1)) (cV _)
theorem aYt:cN (mI (uH t) (vH t)).1:=Gu (aYs ht) (aO5 ht)
theorem W6:cN (sH t):=C8 (aYt ht) (cL tC)
theorem aYu:cN (cH t):=C8 (cL tC) (W5 ht)
theorem aYv:cN (nH t):=cL (aL (aL (aYu ht) (cL (W5 ht))) (cV _))
theorem aER:cN (w0H t):=aL (cD (W6 ht) (W6 ht)) (aO5 ht)
theorem aES:cN (w1H t):=aL (aYv ht) (cV _)
omit ht in
theorem aET:cN (w2H t):=cL (cV 1)
theorem aEU:cN (w3H t):=cD (cV 1) (aL (W6 ht) (W6 ht))
theorem aEV:qF (nB t):=⟨aL (aER ht) (aEU ht),aL (aET) (aES ht),aL (aES ht) (aEU ht),aL (aER ht) (aET)⟩
end
section
variable {t:Nat}
end
end Go.Eng
