import Derived.Test.YtmicbaijcbkmjaaGreatZT1
namespace Go.Eng
set_option linter.unusedVariables false
def lA (a:Fin QP):Bool:=Nat.beq (a.val%2) 1
def qD (a:Fin QP):Fin QP:=cond (lA a) (-a) a
theorem aNh {a:Fin QP} (h:a ≠ 0):(-a).val=aJ - a.val:=by
 have h1:fn (aJ - a.val)+a=0:=by
  have:fn (aJ - a.val)+fn a.val=0:=by
   rw [<-qQ,PU (Hn (V6 a))];exact aC9 (Nat.dvd_refl _)
  rwa [mG] at this
 have h2:-a=fn (aJ - a.val):=by grind (splits:=0) -lia -linarith
 rw [h2,aS5,aV];have h3:a.val ≠ 0:=λ e=>h (by rw [<-mG a,e,t7]);have:=V6 a;omega
theorem EW {a:Fin QP} (h:a ≠ 0):lA (-a)=!lA a:=by
 have h1:=aNh h;have h3:=V6 a;unfold lA;rw [h1];have e:(aJ - a.val)%2=1 - a.val%2:=by
  have:aJ%2=1:=by decide
  generalize aJ=p at *;omega
 rw [e];rcases Nat.mod_two_eq_zero_or_one a.val with h | h <;> rw [h] <;> rfl
theorem Lt:(-(0:Fin QP))=0:=by grind (splits:=0) -lia -linarith
theorem aAG:lA 0=false:=rfl
theorem Lu (a:Fin QP):lA (qD a)=false:=by
 unfold qD;cases h:lA a
 ·exact h
 ·by_cases h0:a=0
  ·rw [h0,aAG] at h; cases h
  ·show lA (-a)=false;rw [EW h0,h]; rfl
theorem He (a:Fin QP):qD a=a ∨ qD a=-a:=by
 unfold qD;cases lA a
 ·exact .inl rfl
 ·exact .inr rfl
theorem SM (a:Fin QP):qD (-a)=qD a:=by
 by_cases h0:a=0
 ·rw [h0,Lt]
 ·unfold qD;rw [EW h0];cases lA a
  ·show -(-a)=a;grind (splits:=0) -lia -linarith
  ·rfl
theorem YI {a:Fin QP} (h:lA a=false):qD a=a:=by unfold qD; rw [h]; rfl
theorem YJ {a b:Fin QP} (ha:lA a=false) (hb:lA b=false) (h:a=b ∨ a=-b):a=b:=by
 rcases h with h | h
 ·exact h
 ·have:=SM b;rw [<-h,YI ha,YI hb] at this;exact this
theorem aY5 (C:Cur QP) {a b:Fin QP} (h:a*a=b*b):a=b ∨ a=-b:=by
 have:(a - b)*(a+b)=0:=by grind (splits:=0) -lia -linarith
 rcases C.noz _ _ this with h | h
 ·left; grind (splits:=0) -lia -linarith
 ·right; grind (splits:=0) -lia -linarith
theorem aWf:iNQ ^ hQN%aJ=aJ - 1:=by
 rw [<-QQ iNQ aJ 256 hQN (by decide +kernel)];decide +kernel
theorem aY6 (a b:Fin QP) (h:a*a=CP.i*(b*b)):b=0:=by
 have h:a*a=fn iNQ*(b*b):=h;rw [<-mG a,<-mG b,<-bQ,<-bQ,<-bQ,tZ] at h;rw [<-mG b];exact nJ.2 (aXD (h:=hQN) prP (by decide) (by decide) aWf h)
structure RatOf (u v r:Fin QP) (b:Bool):Prop where
 even:lA r=false
 yes:b=true->v*(r*r)=u
 no:b=false->v ≠ 0->v*(r*r)=CP.i*u
 nz:b=false->u ≠ 0
 zero:v=0->r=0
 zu:u=0->r=0
theorem RatOf.uniq {u v r r':Fin QP} {b b':Bool} (h:RatOf u v r b) (h':RatOf u v r' b'):r=r' /\ b=b':=by
 have main:∀ {r r':Fin QP} {b b':Bool},RatOf u v r b->RatOf u v r' b'->b=true->b'=false->False:=by
  intro r r' b b' h h' e e';have h1:=h.yes e;have hu:=h'.nz e';by_cases hv:v=0
  ·rw [hv,q9] at h1; exact hu h1.symm
  ·have h2:=h'.no e' hv;have h3:(v*r')*(v*r')=CP.i*((v*r)*(v*r)):=by
    rw [<-h1] at h2;clear h1;grind (splits:=0) -lia -linarith
   have h4:=aY6 _ _ h3;rcases CP.noz _ _ h4 with h5 | h5
   ·exact hv h5
   ·rw [h5,q9,jY] at h1; exact hu h1.symm
 have eb:b=b':=by
  cases b <;> cases b'
  ·rfl
  ·exact (main h' h rfl rfl).elim
  ·exact (main h h' rfl rfl).elim
  ·rfl
 refine ⟨?_,eb⟩;subst eb;by_cases hv:v=0
 ·rw [h.zero hv,h'.zero hv]
 ·refine YJ h.even h'.even (aY5 CP ?_);have e:v*(r*r)=v*(r'*r'):=by
   cases b
   ·rw [h.no rfl hv,h'.no rfl hv]
   ·rw [h.yes rfl,h'.yes rfl]
  exact CP.can hv (by rw [PD,e,PD])
theorem Uw {z:Fe} (hz:cN z):ph (vU z)=qD (ph z):=by
 have hv:=HD hz M2;have h1:vU z=cond (Nat.beq (fv z%aJ%2) 1) (cJ f0 z) z:=rfl;rw [h1];unfold qD lA;have h2:(ph z).val=fv z%aJ:=rfl;rw [h2];cases Nat.beq (fv z%aJ%2) 1
 ·rfl
 ·show ph (cJ f0 z)=-ph z;rw [mC hz,PX];grind (splits:=0) -lia -linarith
theorem Ox (z:Fe):oV z=lA (ph z):=rfl
theorem aPQ {a b:Nat} (h:cg (a:Int) (b:Int)):fn a=fn b:=tZ.2 (mH.1 h)
theorem aG4 {a b:Nat} (h:cg (a:Int) (-(b:Int))):fn a=-fn b:=by
 have h1:=h.add (cg.refl (b:Int));rw [<-fZ,Int.add_left_neg] at h1;have h2:fn (a+b)=0:=nJ.2 (pG.1 h1);rw [qQ] at h2;grind (splits:=0) -lia -linarith
theorem aG5 {U V R:Int} {e:Nat} (he:8*e+4=aJ - 1) (hU:¬ cg U 0) (hV:¬ cg V 0) (hR:cg R (U*(V*V*V)*(U*(V*V*V*(V*V*V)*V)) ^ e)) :
  cg (V*(R*R)) U ∨ cg (V*(R*R)) (-U) ∨ cg (V*(R*R)) (iZ*U) ∨ cg (V*(R*R)) (-(iZ*U)):=by
 have hW:¬ cg (U*(V*V*V*(V*V*V)*V)) 0:=λ h=>by
  rcases mW h with h | h
  ·exact hU h
  rcases mW h with h | h
  ·rcases mW h with h | h <;>
   ·rcases mW h with h | h
    ·rcases mW h with h | h <;> exact hV h
    ·exact hV h
  ·exact hV h
 have h1:cg (V*(R*R)) (U*(U*(V*V*V*(V*V*V)*V)) ^ (2*e+1)):=by
  have h:=(cg.refl V).mul (hR.mul hR);have e1:V*(U*(V*V*V)*(U*(V*V*V*(V*V*V)*V)) ^ e*(U*(V*V*V)*(U*(V*V*V*(V*V*V)*V)) ^ e))=U*(U*(V*V*V*(V*V*V)*V)) ^ (2*e+1):=by
   rw [show 2*e+1=e+e+1 by omega,vF,Cw];generalize (U*(V*V*V*(V*V*V)*V)) ^ e=K;grind
  rwa [e1] at h
 have hh:=V8 hW (4*e+2) (by omega);rw [show 4*e+2=(2*e+1)+(2*e+1) by omega,Cw] at hh;generalize (U*(V*V*V*(V*V*V)*V)) ^ (2*e+1)=X at *;have j9:∀ c:Int,cg X c->cg (V*(R*R)) (c*U):=λ c hc=>by
  have:=h1.trans ((cg.refl U).mul hc);rwa [Int.mul_comm U c] at this
 rcases hh with h | h
 ·have h':cg (X*X) (1*1):=h;rcases QT h' with h | h
  ·have:=j9 _ h;rw [rE] at this;exact .inl this
  ·have:=j9 _ h;rw [rD,rE] at this;exact .inr (.inl this)
 ·rcases QT (h.trans YG.symm) with h | h
  ·exact .inr (.inr (.inl (j9 _ h)))
  ·have:=j9 _ h;rw [rD] at this;exact .inr (.inr (.inr this))
theorem aG6:ph iF=CP.i:=B3 (by decide)
section
variable {q:Nat} [NeZero q]
theorem rx1 {v R u i a:Fin q} (h:v*(R*R)=u) (ha:a=R ∨ a=-R):v*(a*a)=u:=by
 rcases ha with rfl | rfl <;> grind (splits:=0) -lia -linarith
theorem rx2 {v R u i a:Fin q} (hi:i*i=-1) (h:v*(R*R)=-u) (ha:a=R*i ∨ a=-(R*i)):v*(a*a)=u:=by
 rcases ha with rfl | rfl <;> grind (splits:=0) -lia -linarith
theorem rx3 {v R u i a:Fin q} (hi:i*i=-1) (h:v*(R*R)=-(i*u)) (ha:a=R*i ∨ a=-(R*i)):v*(a*a)=i*u:=by
 rcases ha with rfl | rfl <;> grind (splits:=0) -lia -linarith
end
theorem aG7 {x y:Fe} (h:ph x=0 ∨ ph y=0):ph (dO x y)=0:=by
 unfold dO;rw [bL,bL,bL];rcases h with h | h <;> rw [h] <;> grind (splits:=0) -lia -linarith
theorem SN {x y:Fe} (hx:cN x) (hy:cN y):RatOf (ph x) (ph y) (ph (mE x y).1) (mE x y).2:=by
 have hR:cN (dO x y):=Nh hx hy;have hA:kJ (aO y (aO (dO x y) (dO x y))) x=true ↔ ph y*(ph (dO x y)*ph (dO x y))=ph x:=by rw [Hs,bL,bL]
 have hB:kJ (aO y (aO (dO x y) (dO x y))) (cJ f0 x)=true ↔ ph y*(ph (dO x y)*ph (dO x y))=-ph x:=by
  rw [Hs,bL,bL,mC hx,PX];constructor <;> intro h <;> rw [h] <;> grind (splits:=0) -lia -linarith
 have hD:kJ (aO y (aO (dO x y) (dO x y))) (aO (cJ f0 x) iF)=true ↔ ph y*(ph (dO x y)*ph (dO x y))=-(CP.i*ph x):=by
  rw [Hs,bL,bL,bL,mC hx,PX,aG6];constructor <;> intro h <;> rw [h] <;> grind (splits:=0) -lia -linarith
 have hQ:ph (aO (dO x y) iF)=ph (dO x y)*CP.i:=by rw [bL,aG6]
 have oQ:cN (aO (dO x y) iF):=aL hR wB;have h0:ph x=0 ∨ ph y=0->ph (dO x y)=0:=aG7;have h4:ph x ≠ 0->ph y ≠ 0->ph y*(ph (dO x y)*ph (dO x y))=ph x ∨ ph y*(ph (dO x y)*ph (dO x y))=-ph x ∨ ph y*(ph (dO x y)*ph (dO x y))=CP.i*ph x ∨ ph y*(ph (dO x y)*ph (dO x y))=-(CP.i*ph x):=by
  intro gx gy;have hU:¬ cg (fv x:Int) 0:=λ h=>gx (nJ.2 (pG.1 h));have hV:¬ cg (fv y:Int) 0:=λ h=>gy (nJ.2 (pG.1 h));have c3:cg (fv (aO (aO y y) y):Int) ((fv y:Int)*fv y*fv y):=(gK _ y).trans ((gK y y).mul (cg.refl _));have c7:cg (fv (aO x (aO (aO (aO (aO y y) y) (aO (aO y y) y)) y)):Int) ((fv x:Int)*((fv y:Int)*fv y*fv y*((fv y:Int)*fv y*fv y)*fv y)) :=
   (gK x _).trans ((cg.refl _).mul ((gK _ y).trans (((gK _ _).trans (c3.mul c3)).mul (cg.refl _))))
  have cr:cg (fv (dO x y):Int) ((fv x:Int)*((fv y:Int)*fv y*fv y)*((fv x:Int)*((fv y:Int)*fv y*fv y*((fv y:Int)*fv y*fv y)*fv y)) ^ lT 253 252) :=
   (gK _ _).trans (((gK x _).trans ((cg.refl _).mul c3)).mul ((V7 _ 253 252).trans (c7.pow _)))
  have f:=aG5 aMc hU hV cr;have e1:fn (fv y*(fv (dO x y)*fv (dO x y)))=ph y*(ph (dO x y)*ph (dO x y)):=by rw [bQ,bQ]; rfl
  have e2:fn (iNQ*fv x)=CP.i*ph x:=by rw [bQ]; rfl
  have z1:((fv y:Int)*((fv (dO x y):Int)*(fv (dO x y):Int)))=((fv y*(fv (dO x y)*fv (dO x y)):Nat):Int):=by rw [oA,oA]
  have z2:iZ*(fv x:Int)=((iNQ*fv x:Nat):Int):=by rw [oA]; rfl
  rw [z1,z2] at f;rcases f with f | f | f | f
  ·exact .inl (e1.symm.trans (aPQ f))
  ·exact .inr (.inl (e1.symm.trans (aG4 f)))
  ·exact .inr (.inr (.inl (e1.symm.trans ((aPQ f).trans e2))))
  ·exact .inr (.inr (.inr (e1.symm.trans ((aG4 f).trans (by rw [e2])))))
 unfold mE;generalize kJ (aO y (aO (dO x y) (dO x y))) x=A at *;generalize kJ (aO y (aO (dO x y) (dO x y))) (cJ f0 x)=B at *;generalize kJ (aO y (aO (dO x y) (dO x y))) (aO (cJ f0 x) iF)=D at *;generalize aO (dO x y) iF=Q at *;generalize dO x y=R at *;have oC:cN (cond (B || D) Q R):=by
  cases (B || D)
  ·exact hR
  ·exact oQ
 have hab:=Uw oC;show RatOf (ph x) (ph y) (ph (vU (cond (B || D) Q R))) (A || B);rw [hab];have pm:=He (ph (cond (B || D) Q R));have ev:=Lu (ph (cond (B || D) Q R));have z0:ph R=0->qD (ph (cond (B || D) Q R))=0:=by
  intro h;have:ph (cond (B || D) Q R)=0:=by
   cases (B || D)
   ·exact h
   ·show ph Q=0;rw [hQ,h,q9]
  rw [this]; rfl
 clear hab;have hii:=CP.ii;have hi0:=CP.i_ne;have key:∀ {c d:Fin QP},ph x ≠ 0->c*ph x=d*ph x->c=d:=λ h e=>CP.can h e;have one:(1:Fin QP)*ph x=ph x:=Fin.one_mul _;refine ⟨ev,λ hb=>?_,λ hb hv=>?_,λ hb hu=>?_,λ hv=>z0 (h0 (.inr hv)),λ hu=>z0 (h0 (.inl hu))⟩
 ·-- a square
  cases B
  ·rw [Bool.or_false] at hb;have h1:=hA.1 hb;cases D
   ·exact rx1 (i:=CP.i) h1 pm
   ·have h2:=hD.1 rfl;have hx0:ph x=0:=by
     by_cases gx:ph x=0
     ·exact gx
     ·exfalso;have h3:CP.i*ph x=-1*ph x:=by
       rw [h1] at h2;grind (splits:=0) -lia -linarith
      have h4:=key gx h3;rw [h4] at hii;have:(2:Fin QP)=0:=by grind (splits:=0) -lia -linarith
      exact CP.h2 this
    rw [z0 (h0 (.inl hx0)),hx0,q9,jY]
  ·have h1:=hB.1 rfl;have pm':qD (ph (cond (true || D) Q R))=ph R*CP.i ∨ qD (ph (cond (true || D) Q R))=-(ph R*CP.i):=by
    rw [<-hQ]; exact pm
   exact rx2 hii h1 pm'
 ·-- none
  rw [Cv] at hb;obtain ⟨rfl,rfl⟩:=hb;by_cases gx:ph x=0
  ·rw [z0 (h0 (.inl gx)),gx];grind (splits:=0) -lia -linarith
  rcases h4 gx hv with f | f | f | f
  ·exact absurd (hA.2 f) (by simp)
  ·exact absurd (hB.2 f) (by simp)
  ·cases D
   ·exact rx1 (i:=CP.i) f pm
   ·have h2:=hD.1 rfl;exfalso;rw [f] at h2;have h3:CP.i*ph x+CP.i*ph x=0:=by grind (splits:=0) -lia -linarith
    exact aA9 CP (CP.mul_ne hi0 gx) h3
  ·have hD':=hD.2 f;subst hD';have pm':qD (ph (cond (false || true) Q R))=ph R*CP.i ∨ qD (ph (cond (false || true) Q R))=-(ph R*CP.i):=by
    rw [<-hQ]; exact pm
   exact rx3 hii f pm'
 ·rw [Cv] at hb;obtain ⟨rfl,_⟩:=hb;have:(false:Bool)=true:=hA.2 (by rw [h0 (.inl hu),hu]; grind (splits:=0) -lia -linarith);cases this
def EX (u v:Fin QP):Fin QP × Bool:=(ph (mE (fe u.val) (fe v.val)).1,(mE (fe u.val) (fe v.val)).2)
theorem aG8 (a:Fin QP):ph (fe a.val)=a:=by rw [B3 (V6 a),mG]
theorem wV (u v:Fin QP):RatOf u v (EX u v).1 (EX u v).2:=by
 have:=SN (cV u.val) (cV v.val);rwa [aG8,aG8] at this
theorem Ux {x y:Fe} (hx:cN x) (hy:cN y):ph (mE x y).1=(EX (ph x) (ph y)).1 /\ (mE x y).2=(EX (ph x) (ph y)).2:=(SN hx hy).uniq (wV _ _)
theorem aG9 {u v:Nat} (hu:u < aJ) (hv:v < aJ):fn (Bi u v).1=(EX (fn u) (fn v)).1 /\ (Bi u v).2=(EX (fn u) (fn v)).2:=by
 have eu:fv (fe u)=u:=B6 (fC hu (by decide));have ev:fv (fe v)=v:=B6 (fC hv (by decide));have h:=aFH (cV u) (cV v) (by rw [eu]; exact hu) (by rw [ev]; exact hv);rw [eu,ev] at h;have k:=Ux (cV u) (cV v);rw [B3 hu,B3 hv] at k;rw [<-h.1,<-h.2,bR];exact k
def cO:Fin QP:=fn Yz
def zQ (i x y z t:Fin QP):Fin QP:=i*((z+y)*(z - y))*(i*(x*y))*t
def aAH (i x y z t:Fin QP):Fin QP :=
 qD (cond (lA (t*zQ i x y z t)) (i*((z+y)*(z - y))*cO) (i*(x*y)) *
  (z - cond (lA (cond (lA (t*zQ i x y z t)) (y*CP.i) x*zQ i x y z t)) (-(cond (lA (t*zQ i x y z t)) (x*CP.i) y)) (cond (lA (t*zQ i x y z t)) (x*CP.i) y)))
def SO (x y z t:Fin QP):Fin QP:=aAH (EX 1 ((z+y)*(z - y)*(x*y*(x*y)))).1 x y z t
theorem tM (a:Fin QP):0 - a=-a:=by grind (splits:=0) -lia -linarith
theorem Hf (b:Bool) (x y:Fe):ph (cond b x y)=cond b (ph x) (ph y):=by cases b <;> rfl
theorem aHa {p:Pt} (hp:qF p):ph (i5 p)=SO (ph p.x) (ph p.y) (ph p.z) (ph p.t):=by
 have k1:=IE hp;have k2:=E1 hp;have h1:ph (u1E p)=(ph p.z+ph p.y)*(ph p.z - ph p.y):=by unfold u1E; rw [bL,oS,mC hp.2.1]
 have h2:ph (Vk p)=ph p.x*ph p.y:=by unfold Vk; rw [bL]
 have h3:ph (DP p)=(EX 1 ((ph p.z+ph p.y)*(ph p.z - ph p.y)*(ph p.x*ph p.y*(ph p.x*ph p.y)))).1:=by
  unfold DP;rw [(Ux (cV 1) (aL k1 (aL k2 k2))).1,Ht,bL,bL,h1,h2]
 unfold SO;rw [<-h3];have h4:ph (ziE p)=zQ (ph (DP p)) (ph p.x) (ph p.y) (ph p.z) (ph p.t):=by
  unfold ziE zQ;rw [bL,bL,bL,bL,h1,h2]
 have h5:Ey p=lA (ph p.t*zQ (ph (DP p)) (ph p.x) (ph p.y) (ph p.z) (ph p.t)):=by
  unfold Ey;rw [Ox,bL,h4]
 have hc:ph (fe Yz)=cO:=B3 (by decide);unfold aAH i5;rw [Uw (aL (Mc hp) (cL hp.2.2.1)),bL,mC (aCj hp)];unfold y2E;rw [Hf,mC (aCi hp),PX,tM,Ox,bL,h4];unfold xE yE MY;rw [Hf,Hf,Hf,bL,bL,bL,bL,bL,h1,h2,aG6,hc,h5]
theorem aPR:fn iN=CP.i:=rfl
theorem EY (b:Bool) (x y:Nat):fn (cond b x y)=cond b (fn x) (fn y):=by cases b <;> rfl
theorem Oy (n:Nat):Nat.beq (n%aJ%2) 1=lA (fn n):=rfl
theorem YK {n:Nat} (h:n < aJ):Nat.beq (n%2) 1=lA (fn n):=by rw [<-Oy,aV h]
theorem YL {n:Nat} (h:n < aJ):fn (oW n)=qD (fn n):=by
 unfold oW qD;rw [EY,YK h,bR,uI h,t7,tM]
theorem SP {u v:Nat} (hu:u < aJ) (hv:v < aJ):(Bi u v).1 < aJ:=by
 have eu:fv (fe u)=u:=B6 (fC hu (by decide));have ev:fv (fe v)=v:=B6 (fC hv (by decide));have h:=(aFH (cV u) (cV v) (by rw [eu]; exact hu) (by rw [ev]; exact hv)).1;rw [eu,ev] at h;rw [<-h];exact mP _
section
variable {x y:Nat} (hx:x < aJ) (hy:y < aJ)
theorem aHb (hy:y < aJ):fn (Sm x y)=(1+fn y)*(1 - fn y):=by
 unfold Sm;rw [bR,bQ,bR,qQ,bR,uI hy,oX]
theorem aNi (hy:y < aJ):fn (xL x y)=(EX 1 ((1+fn y)*(1 - fn y)*(fn x*fn y*(fn x*fn y)))).1:=by
 have hv:Sm x y*(x*y%aJ*(x*y%aJ)%aJ)%aJ < aJ:=mP _;unfold xL;rw [(aG9 (by decide) hv).1,oX,bR,bQ,aHb hy,bR,bQ,bR,bQ]
theorem aY7 (hy:y < aJ):fn (Vm x y)=zQ (fn (xL x y)) (fn x) (fn y) 1 (fn x*fn y):=by
 unfold Vm zQ;rw [bR,bQ,bR,bQ,bR,bQ,bR,bQ,bR,bQ,aHb hy]
theorem aWg (hy:y < aJ):Ez x y=lA (fn x*fn y*fn (Vm x y)):=by
 unfold Ez;rw [Oy,bQ,bR,bQ]
theorem aY8:fn (xR x y)=cond (Ez x y) (fn y*CP.i) (fn x):=by
 unfold xR;rw [EY,bR,bQ,aPR]
theorem aY9:fn (yR x y)=cond (Ez x y) (fn x*CP.i) (fn y):=by
 unfold yR;rw [EY,bR,bQ,aPR]
theorem aNj (hy:y < aJ):fn (P7 x y)=cond (Ez x y) (fn (xL x y)*((1+fn y)*(1 - fn y))*cO) (fn (xL x y)*(fn x*fn y)):=by
 have:fn Yz=cO:=rfl;unfold P7;rw [EY,bR,bQ,bR,bQ,bR,bQ,bR,bQ,aHb hy,this]
theorem EZ {b:Bool} {x y n:Nat} (hx:x < n) (hy:y < n):cond b x y < n:=by
 cases b
 ·exact hy
 ·exact hx
theorem aHc (hy:y < aJ):yR x y < aJ:=by
 unfold yR;exact EZ (mP _) hy
theorem aHd (hy:y < aJ):y2R x y < aJ:=by
 unfold y2R;exact EZ (mP _) (aHc hy)
theorem aWh (hy:y < aJ):fn (y2R x y)=cond (lA (fn (xR x y)*fn (Vm x y))) (-(fn (yR x y))) (fn (yR x y)):=by
 unfold y2R;rw [EY,bR,uI (aHc hy),t7,tM,Oy,bQ]
theorem aAI (hy:y < aJ):fn (kK x y)=qD (fn (P7 x y)*(1 - fn (y2R x y))):=by
 unfold kK;rw [YL (mP _),bR,bQ,bR,uI (aHd hy),oX]
theorem aHe (hy:y < aJ):fn (kK x y)=SO (fn x) (fn y) 1 (fn x*fn y):=by
 unfold SO;rw [<-aNi hy];unfold aAH;rw [<-aY7 hy,<-aWg hy,<-aY8,<-aY9,<-aWh hy,<-aNj hy,aAI hy]
end
section
variable {q:Nat} [NeZero q]
theorem es1 {i i' x y z:Fin q} (hi:i=i'*(z*z*z) ∨ i=-(i'*(z*z*z))):i'*((z+y*z)*(z - y*z))*(i'*(x*z*(y*z)))*(x*y*z)*z=i*((1+y)*(1 - y))*(i*(x*y))*(x*y):=by
 rcases hi with rfl | rfl <;> grind (splits:=0) -lia -linarith
theorem lJ {a b Z Z' z:Fin q} (h:Z'*z=Z):a*z*Z'=a*Z /\ a*b*z*Z'=a*b*Z /\ a*z*b*Z'=a*b*Z:=by
 subst h;refine ⟨?_,?_,?_⟩ <;> grind (splits:=0) -lia -linarith
theorem es3 {i i' x y z w w':Fin q} (hi:i=i'*(z*z*z) ∨ i=-(i'*(z*z*z))) (hw:w'=w*z):i'*(x*z*(y*z))*(z - w')=i*(x*y)*(1 - w) ∨ i'*(x*z*(y*z))*(z - w')=-(i*(x*y)*(1 - w)):=by
 subst hw;rcases hi with rfl | rfl
 ·left; grind (splits:=0) -lia -linarith
 ·right; grind (splits:=0) -lia -linarith
theorem es4 {i i' y z w w' c:Fin q} (hi:i=i'*(z*z*z) ∨ i=-(i'*(z*z*z))) (hw:w'=w*z):i'*((z+y*z)*(z - y*z))*c*(z - w')=i*((1+y)*(1 - y))*c*(1 - w) ∨ i'*((z+y*z)*(z - y*z))*c*(z - w')=-(i*((1+y)*(1 - y))*c*(1 - w)):=by
 subst hw;rcases hi with rfl | rfl
 ·left; grind (splits:=0) -lia -linarith
 ·right; grind (splits:=0) -lia -linarith
theorem es5 {x y z:Fin q}:(z+y*z)*(z - y*z)*(x*z*(y*z)*(x*z*(y*z)))=z*z*z*(z*z*z)*((1+y)*(1 - y)*(x*y*(x*y))):=by grind (splits:=0) -lia -linarith
theorem es6 {x z:Fin q}:-(x*z)=-x*z:=by grind (splits:=0) -lia -linarith
theorem es7 {x z i:Fin q}:x*z*i=x*i*z:=by grind (splits:=0) -lia -linarith
theorem es8 {v r z3 a u:Fin q} (h:a=r*z3 ∨ a=-(r*z3)) (e:z3*z3*v*(r*r)=u):v*(a*a)=u:=by
 subst e;rcases h with rfl | rfl <;> grind (splits:=0) -lia -linarith
end
theorem Lv {a b:Fin QP} (h:a=b ∨ a=-b):qD a=qD b:=by
 rcases h with h | h
 ·rw [h]
 ·rw [h,SM]
theorem Uy {i i' x y z:Fin QP} (hi:i=i'*(z*z*z) ∨ i=-(i'*(z*z*z))):aAH i' (x*z) (y*z) z (x*y*z)=aAH i x y 1 (x*y):=by
 have hZ:zQ i' (x*z) (y*z) z (x*y*z)*z=zQ i x y 1 (x*y):=es1 hi;unfold aAH;generalize zQ i' (x*z) (y*z) z (x*y*z)=Z' at *;generalize zQ i x y 1 (x*y)=Z at *;rw [(lJ (a:=x) (b:=y) hZ).2.1];cases lA (x*y*Z)
 ·rw [aD,aD,aD,aD,aD,aD,(lJ (a:=x) (b:=y) hZ).1];apply Lv;cases lA (x*Z)
  ·rw [aD,aD]; exact es3 hi rfl
  ·rw [aB,aB]; exact es3 hi es6
 ·rw [aB,aB,aB,aB,aB,aB,(lJ (a:=y) (b:=CP.i) hZ).2.2];apply Lv;cases lA (y*CP.i*Z)
  ·rw [aD,aD]; exact es4 hi es7
  ·rw [aB,aB]; exact es4 hi (by rw [es7,es6])
theorem Uz {x y z:Fin QP} (hz:z ≠ 0):SO (x*z) (y*z) z (x*y*z)=SO x y 1 (x*y):=by
 unfold SO;apply Uy;rw [es5];have h3:z*z*z ≠ 0:=CP.mul_ne (CP.mul_ne hz hz) hz;have s:=wV 1 (z*z*z*(z*z*z)*((1+y)*(1 - y)*(x*y*(x*y))));have s':=wV 1 ((1+y)*(1 - y)*(x*y*(x*y)));generalize EX 1 (z*z*z*(z*z*z)*((1+y)*(1 - y)*(x*y*(x*y))))=R at *;generalize EX 1 ((1+y)*(1 - y)*(x*y*(x*y)))=R' at *;generalize (1+y)*(1 - y)*(x*y*(x*y))=v at *;generalize z*z*z=z3 at *;have pm:=He (R.1*z3);have k:RatOf 1 v (qD (R.1*z3)) R.2:=by
  refine ⟨Lu _,λ h=>es8 pm (s.yes h),λ h hv=>?_,s.nz,λ h=>?_,λ h=>(CP.h1 h).elim⟩
  ·have:=s.no h (CP.mul_ne (CP.mul_ne h3 h3) hv);exact es8 pm this
  ·have:=s.zero (by rw [h,jY]);rw [this,q9]; rfl
 rw [(s'.uniq k).1];exact pm
def aZa (g:CP.G):Fin QP:=SO g.1.1 g.1.2 1 (g.1.1*g.1.2)
theorem aHf {p:Pt} {g:CP.G} (h:PT p g):ph (i5 p)=aZa g:=by
 rw [aHa h.ok,h.x,h.y,h.t];exact Uz h.z
theorem aAJ {r:RP} {g:CP.G} (h:RPT r g):fn (kK (Bl r).1 (Bl r).2)=aZa g:=by
 have hy:(Bl r).2 < aJ:=mP _;obtain ⟨e1,e2⟩:=Zz h;rw [aHe hy,e1,e2];rfl
theorem aAK {x y:Nat}:kK x y < aJ:=by
 unfold kK;exact HS (mP _)
theorem U0 {p:Pt} {r:RP} {g:CP.G} (h:PT p g) (h':RPT r g):lo 32 (fv (i5 p)%aJ)=lo 32 (kK (Bl r).1 (Bl r).2):=by
 have e:fn (fv (i5 p))=fn (kK (Bl r).1 (Bl r).2):=(aHf h).trans (aAJ h').symm;have:=tZ.1 e;rw [aV aAK] at this;rw [this]
section
variable {q:Nat} [NeZero q]
theorem Cur.d0 (C:Cur q):C.d ≠ 0:=λ h=>C.h1 (C.nsq 0 1 (by rw [h]; grind (splits:=0) -lia -linarith))
theorem Cur.d1 (C:Cur q):C.d - 1 ≠ 0:=λ h=>C.h1 (C.nsq 1 1 (by
 have:C.d=1:=by grind (splits:=0) -lia -linarith
 rw [this]; grind (splits:=0) -lia -linarith))
end
section
variable {q:Nat} [NeZero q]
theorem hb1 {v u s a t r i:Fin q} (ha:a=s*t ∨ a=-(s*t)) (hr:r=i*(t*t)) (h:v*(s*s)=i*u):v*(-a*-a)=r*u:=by
 have e:v*(-a*-a)=v*(s*s)*(t*t):=by
  rcases ha with rfl | rfl <;> clear h hr <;> grind (splits:=0) -lia -linarith
 rw [e,h,hr];clear e h hr ha;grind (splits:=0) -lia -linarith
end
set_option linter.unusedSectionVars false
section
variable {t:Fe} (ht:cN t)
include ht
theorem YM:cN (rH t):=aL wB (aL ht ht)
theorem aPS:cN (vH t):=aL (cL (cL sV)) (cD (YM ht) (cV _))
theorem aZb:cN (uH t):=aL (cD (YM ht) (cV 1)) (cV _)
theorem aZc:cN (mE (uH t) (vH t)).1:=Gz (aZb ht) (aPS ht)
theorem YN:cN (sH t):=DS (aZc ht) (cL sV)
theorem aZd:cN (cH t):=DS (cL sV) (YM ht)
theorem aZe:cN (nH t):=cL (aL (aL (aZd ht) (cL (YM ht))) (cV _))
theorem aHg:cN (w0H t):=aL (cD (YN ht) (YN ht)) (aPS ht)
theorem aHh:cN (w1H t):=aL (aZe ht) (cV _)
omit ht in
theorem aHi:cN (w2H t):=cL (cV 1)
theorem aHj:cN (w3H t):=cD (cV 1) (aL (YN ht) (YN ht))
theorem aHk:qF (nE t):=⟨aL (aHg ht) (aHj ht),aL (aHi) (aHh ht),aL (aHh ht) (aHj ht),aL (aHg ht) (aHi)⟩
end
section
variable {t:Nat}
end
end Go.Eng
