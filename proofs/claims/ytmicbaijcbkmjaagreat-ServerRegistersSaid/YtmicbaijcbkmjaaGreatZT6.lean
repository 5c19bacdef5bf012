import Derived.Test.YtmicbaijcbkmjaaGreatZT3
namespace Go.Eng
set_option linter.unusedVariables false
def e4 (g:CP.G):Prop:=g.1.1=0 ∨ g.1.2=0
section
variable {q:Nat} [NeZero q]
theorem ev1 {d x y u v:Fin q} (h:u=0 ∨ v=0):1+d*x*y*u*v=1 /\ 1 - d*x*y*u*v=1:=by
 rcases h with rfl | rfl <;> constructor <;> grind (splits:=0) -lia -linarith
theorem ev4 {d x y:Fin q} (h:x=0) (o:y*y - x*x=1+d*x*x*y*y):y*y=1*1:=by
 subst h;grind (splits:=0) -lia -linarith
theorem ev5 {d x y i:Fin q} (hi:i*i=-1) (h:y=0) (o:y*y - x*x=1+d*x*x*y*y):x*x=i*i:=by
 subst h;grind (splits:=0) -lia -linarith
end
theorem aP1 (g h:CP.G):(CP.add g h).1.1*CP.dp g.1 h.1=g.1.1*h.1.2+h.1.1*g.1.2:=CP.ad_x g.2 h.2
theorem aP2 (g h:CP.G):(CP.add g h).1.2*CP.dm g.1 h.1=g.1.2*h.1.2+g.1.1*h.1.1:=CP.ad_y g.2 h.2
theorem U4 (g h:CP.G):e4 (CP.add g h) ↔ (g.1.1*h.1.2+h.1.1*g.1.2=0 ∨ g.1.2*h.1.2+g.1.1*h.1.1=0):=by
 have h1:=aP1 g h;have h2:=aP2 g h;have p:=CP.dp_ne g.2 h.2;have m:=CP.dm_ne g.2 h.2;constructor
 ·intro k;rcases k with k | k
  ·left; rw [<-h1,k,q9]
  ·right; rw [<-h2,k,q9]
 ·intro k;rcases k with k | k
  ·left; exact (CP.noz _ _ (h1.trans k)).resolve_right p
  ·right; exact (CP.noz _ _ (h2.trans k)).resolve_right m
theorem aHp {g:CP.G} (h:e4 g):e4 (CP.neg g):=by
 rcases h with h | h
 ·left;show -g.1.1=0;rw [h]; grind (splits:=0) -lia -linarith
 ·right; exact h
theorem aWA (h:CP.G) {t:CP.G} (ht:e4 t):(CP.add h t).1.1=h.1.1*t.1.2+t.1.1*h.1.2 /\ (CP.add h t).1.2=h.1.2*t.1.2+h.1.1*t.1.1:=by
 have e:=ev1 (d:=CP.d) (x:=h.1.1) (y:=h.1.2) ht;have e1:CP.dp h.1 t.1=1:=e.1;have e2:CP.dm h.1 t.1=1:=e.2;have h1:=aP1 h t;have h2:=aP2 h t;rw [e1,Ao] at h1;rw [e2,Ao] at h2;exact ⟨h1,h2⟩
theorem U5 {a b:Fin QP} (h:a*a=b*b):a=b ∨ a=-b:=by
 have:(a - b)*(a+b)=0:=by grind (splits:=0) -lia -linarith
 rcases CP.noz _ _ this with h | h
 ·left; grind (splits:=0) -lia -linarith
 ·right; grind (splits:=0) -lia -linarith
theorem bAt (g:CP.G):g.1.2*g.1.2 - g.1.1*g.1.1=1+CP.d*g.1.1*g.1.1*g.1.2*g.1.2:=g.2
theorem aWB {t:CP.G} (ht:e4 t):(t.1.1=0 /\ (t.1.2=1 ∨ t.1.2=-1)) ∨ (t.1.2=0 /\ (t.1.1=CP.i ∨ t.1.1=-CP.i)):=by
 have o:=bAt t;have hi:=CP.ii;rcases ht with h | h
 ·left;exact ⟨h,U5 (ev4 h o)⟩
 ·right;exact ⟨h,U5 (ev5 hi h o)⟩
theorem aZk {h t:CP.G} (ht:e4 t):((CP.add h t).1.1=h.1.1 /\ (CP.add h t).1.2=h.1.2) ∨ ((CP.add h t).1.1=-h.1.1 /\ (CP.add h t).1.2=-h.1.2) ∨
  ((CP.add h t).1.1=CP.i*h.1.2 /\ (CP.add h t).1.2=CP.i*h.1.1) ∨ ((CP.add h t).1.1=-(CP.i*h.1.2) /\ (CP.add h t).1.2=-(CP.i*h.1.1)):=by
 obtain ⟨e1,e2⟩:=aWA h ht;rcases aWB ht with ⟨a,b | b⟩ | ⟨a,b | b⟩
 ·rw [a,b] at e1 e2;left; constructor
  ·rw [e1]; grind (splits:=0) -lia -linarith
  ·rw [e2]; grind (splits:=0) -lia -linarith
 ·rw [a,b] at e1 e2;right; left; constructor
  ·rw [e1]; grind (splits:=0) -lia -linarith
  ·rw [e2]; grind (splits:=0) -lia -linarith
 ·rw [a,b] at e1 e2;right; right; left; constructor
  ·rw [e1]; grind (splits:=0) -lia -linarith
  ·rw [e2]; grind (splits:=0) -lia -linarith
 ·rw [a,b] at e1 e2;right; right; right; constructor
  ·rw [e1]; grind (splits:=0) -lia -linarith
  ·rw [e2]; grind (splits:=0) -lia -linarith
section
variable {q:Nat} [NeZero q]
end
def sim (g h:CP.G):Prop:=e4 (CP.add h (CP.neg g))
theorem aHq {g h:CP.G} (k:sim g h):∃ t,e4 t /\ h=CP.add g t:=by
 refine ⟨_,k,?_⟩;rw [CP.add_comm h,<-CP.add_assoc,CP.add_neg,CP.zero_add]
theorem aWD {g h t:CP.G} (ht:e4 t) (e:h=CP.add g t):sim g h:=by
 subst e;show e4 (CP.add (CP.add g t) (CP.neg g));rw [CP.add_comm g t,CP.add_assoc,CP.add_neg,CP.add_zero];exact ht
theorem aNw (g h:CP.G):sim g h ↔ (g.1.1*h.1.2=g.1.2*h.1.1 ∨ g.1.2*h.1.2=g.1.1*h.1.1):=by
 unfold sim;rw [U4];show (h.1.1*g.1.2+-g.1.1*h.1.2=0 ∨ h.1.2*g.1.2+h.1.1*-g.1.1=0) ↔ _;constructor
 ·intro k;rcases k with k | k
  ·left; grind (splits:=0) -lia -linarith
  ·right; grind (splits:=0) -lia -linarith
 ·intro k;rcases k with k | k
  ·left; grind (splits:=0) -lia -linarith
  ·right; grind (splits:=0) -lia -linarith
structure Canon (h:CP.G):Prop where
 x:lA h.1.1=false
 t:lA (h.1.1*h.1.2)=false
 z:h.1.1*h.1.2=0->h=CP.zero
structure Told (h:CP.G) (s:Fin QP):Prop where
 even:lA s=false
 root:s*s*(1+h.1.2)=1 - h.1.2
theorem ec0 {q:Nat} [NeZero q] {y:Fin q} (e:1+y=0) (r:0=1 - y):(2:Fin q)=0:=by grind (splits:=0) -lia -linarith
theorem aZl {h:CP.G} {s:Fin QP} (k:Told h s):1+h.1.2 ≠ 0:=λ e=>by
 have r:=k.root;rw [e,jY] at r;exact CP.h2 (ec0 e r)
theorem Told.uniq {h:CP.G} {s s':Fin QP} (k:Told h s) (k':Told h s'):s=s' :=
 YJ k.even k'.even (U5 (CP.can (aZl k) (k.root.trans k'.root.symm)))
theorem aHr {x y:Fin QP} (hx:x*y ≠ 0) (h:lA (x*y)=false):lA (CP.i*y*(CP.i*x))=true:=by
 have hi:=CP.ii;have e:CP.i*y*(CP.i*x)=-(x*y):=by
  have e1:CP.i*y*(CP.i*x)=CP.i*CP.i*(x*y):=by clear hx h hi; grind (splits:=0) -lia -linarith
  rw [e1,hi]; clear e1 hx h hi; grind (splits:=0) -lia -linarith
 rw [e,EW hx,h]; rfl
section
variable {q:Nat} [NeZero q]
theorem ec1 {x y:Fin q}:-x*-y=x*y /\ -x*-y=x*y:=by constructor <;> grind (splits:=0) -lia -linarith
theorem ec2 {i x y:Fin q}:-(i*y)*-(i*x)=i*y*(i*x):=by grind (splits:=0) -lia -linarith
theorem ec3 {i x y:Fin q} (h:x*y=0):i*y*(i*x)=0:=by
 have:i*y*(i*x)=i*i*(x*y):=by clear h; grind (splits:=0) -lia -linarith
 rw [this,h,jY]
end
theorem Canon.uniq {h h':CP.G} (c:Canon h) (c':Canon h') (k:sim h h'):h'=h:=by
 obtain ⟨t,ht,rfl⟩:=aHq k;have cs:=aZk (h:=h) ht;by_cases h0:h.1.1*h.1.2=0
 ·have hz:=c.z h0;have h1:(CP.add h t).1.1*(CP.add h t).1.2=0:=by
   rcases cs with ⟨a,b⟩ | ⟨a,b⟩ | ⟨a,b⟩ | ⟨a,b⟩ <;> rw [a,b]
   ·exact h0
   ·rw [ec1.1,h0]
   ·exact ec3 h0
   ·rw [ec2]; exact ec3 h0
  rw [c'.z h1,hz]
 ·have hx:h.1.1 ≠ 0:=λ e=>h0 (by rw [e,q9]);rcases cs with ⟨a,b⟩ | ⟨a,b⟩ | ⟨a,b⟩ | ⟨a,b⟩
  ·exact yW (BZ a b)
  ·have:=c'.x;rw [a,EW hx,c.x] at this;cases this
  ·have:=c'.t;rw [a,b,aHr h0 c.t] at this;cases this
  ·have:=c'.t;rw [a,b,ec2,aHr h0 c.t] at this;cases this
section
variable {q:Nat} [NeZero q]
end
def paV (s:Fin QP):Fin QP:=-(CP.d*((1 - s*s)*(1 - s*s))) - (1+s*s)*(1+s*s)
def YR (s:Fin QP):Fin QP × Bool:=EX 1 (paV s*((1+s*s)*(1+s*s)))
def YS (s:Fin QP):Fin QP:=qD ((s+s)*((YR s).1*(1+s*s)))
def paY (s:Fin QP):Fin QP:=(1 - s*s)*((YR s).1*((YR s).1*(1+s*s))*paV s)
section
variable {q:Nat} [NeZero q]
theorem da7 {a x X:Fin q} (ha:a=x ∨ a=-x) (h:x*x=X*X):a*a=X*X:=by
 rw [<-h];rcases ha with rfl | rfl
 ·rfl
 ·clear h; grind (splits:=0) -lia -linarith
end
section
variable {q:Nat} [NeZero q]
end
section
variable {q:Nat} [NeZero q]
end
theorem bAu:0 < LN:=by decide
open Go Go.Proofs
set_option linter.unusedSimpArgs false
def pU1 (s:Fe):Fe:=cJ (fe 1) (aO s s)
def O1 (s:Fe):Fe:=gC (fe 1) (aO s s)
def pVF (s:Fe):Fe:=cJ (cJ f0 (aO dF (aO (pU1 s) (pU1 s)))) (aO (O1 s) (O1 s))
def U6 (s:Fe):Fe × Bool:=mE (fe 1) (aO (pVF s) (aO (O1 s) (O1 s)))
def pXF (s:Fe):Fe:=vU (aO (gC s s) (aO (U6 s).1 (O1 s)))
def Kk (s:Fe):Fe:=aO (pU1 s) (aO (aO (U6 s).1 (aO (U6 s).1 (O1 s))) (pVF s))
def pTF (s:Fe):Fe:=aO (pXF s) (Kk s)
def Jz (s:Fe):Bool:=!oV s && ((U6 s).2 && (!oV (pTF s) && !Gn (Kk s)))
def ptP (s:Fe):Pt:=⟨pXF s,Kk s,fe 1,pTF s⟩
set_option linter.unusedSectionVars false
theorem aWE {p q:Pt} {g h:CP.G} (hp:PT p g) (hq:PT q h):vX p q=true ↔ sim g h:=by
 rw [aNw];unfold vX;rw [J7,Hs,Hs,bL,bL,bL,bL,hp.x,hp.y,hq.x,hq.y];have z:=CP.mul_ne hp.z hq.z;have r:∀ a b c e:Fin QP,a*ph p.z*(b*ph q.z)=c*ph p.z*(e*ph q.z) ↔ a*b=c*e:=λ a b c e=>by
  have e1:a*ph p.z*(b*ph q.z)=a*b*(ph p.z*ph q.z):=by grind (splits:=0) -lia -linarith
  have e2:c*ph p.z*(e*ph q.z)=c*e*(ph p.z*ph q.z):=by grind (splits:=0) -lia -linarith
  rw [e1,e2];exact ⟨λ h=>CP.can z h,λ h=>by rw [h]⟩
 rw [r,r]
section
variable {s:Fe} (hs:cN s)
include hs
theorem U7:cN (pU1 s):=cL (cV 1)
theorem Ak:cN (O1 s):=cD (cV 1) (aL hs hs)
theorem U8:cN (pVF s):=cL (cL sV)
theorem aHu:cN (aO (pVF s) (aO (O1 s) (O1 s))):=aL (U8 hs) (aL (Ak hs) (Ak hs))
theorem SX:cN (U6 s).1:=Gz (cV 1) (aHu hs)
theorem O2:cN (pXF s):=Mb (aL (cD hs hs) (aL (SX hs) (Ak hs)))
theorem O3:cN (Kk s):=aL (U7 hs) (aL (aL (SX hs) (aL (SX hs) (Ak hs))) (U8 hs))
theorem aHv:cN (pTF s):=aL (O2 hs) (O3 hs)
theorem aHw:ph (pU1 s)=1 - ph s*ph s:=by
 unfold pU1;rw [mC (aL hs hs),bL,Ht]
theorem O4:ph (O1 s)=1+ph s*ph s:=by
 unfold O1;rw [oS,bL,Ht]
theorem aHx:ph (pVF s)=paV (ph s):=by
 have k1:=U7 hs;unfold pVF paV;rw [mC (aL (Ak hs) (Ak hs)),mC (aL uN (aL k1 k1)),bL,bL,bL,aHw hs,O4 hs,PX,aXe,tM]
theorem O5:ph (U6 s).1=(YR (ph s)).1 /\ (U6 s).2=(YR (ph s)).2:=by
 have h:=Ux (cV 1) (aHu hs);rw [Ht,bL,bL,aHx hs,O4 hs] at h;exact h
theorem aHy:ph (pXF s)=YS (ph s):=by
 have h:=aL (cD hs hs) (aL (SX hs) (Ak hs));unfold pXF YS;rw [Uw h,bL,oS,bL,(O5 hs).1,O4 hs]
theorem O6:ph (Kk s)=paY (ph s):=by
 unfold Kk paY;rw [bL,bL,bL,bL,(O5 hs).1,O4 hs,aHw hs,aHx hs]
end
end Go.Eng
