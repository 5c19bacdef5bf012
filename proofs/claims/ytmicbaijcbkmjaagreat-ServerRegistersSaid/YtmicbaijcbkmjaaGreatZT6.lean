import Derived.Test.YtmicbaijcbkmjaaGreatZT3
namespace Go.Eng
set_option linter.unusedVariables false
def e4 (g:CP.G):Prop:=g.1.1=0 ∨ g.1.2=0
section
variable {q:Nat} [NeZero q]
theorem ev1 {d x y u v:Fin q} (h:u=0 ∨ v=0):1+d*x*y*u*v=1 /\ 1 - d*x*y*u*v=1:=by
 rcases h with rfl | rfl <;> constructor <;> grind (splits:=0) -lia -linarith
theorem ev4 {d x y:Fin q} (h:x=0) (o:y*y - x*x=1+d*x*x*y*y):y*y=1*1:=by
 subst h;grind (splits:=0) -lia -linarith
theorem ev5 {d x y i:Fin q} (hi:i*i=-1) (h:y=0) (o:y*y - x*x=1+d*x*x*y*y):x*x=i*i:=by
 subst h;grind (splits:=0) -lia -linarith
end
theorem aOZ (g h:CP.G):(CP.add g h).1.1*CP.dp g.1 h.1=g.1.1*h.1.2+h.1.1*g.1.2:=CP.ad_x g.2 h.2
theorem aO0 (g h:CP.G):(CP.add g h).1.2*CP.dm g.1 h.1=g.1.2*h.1.2+g.1.1*h.1.1:=CP.ad_y g.2 h.2
theorem Tw (g h:CP.G):e4 (CP.add g h) ↔ (g.1.1*h.1.2+h.1.1*g.1.2=0 ∨ g.1.2*h.1.2+g.1.1*h.1.1=0):=by
 have h1:=aOZ g h;have h2:=aO0 g h;have p:=CP.dp_ne g.2 h.2;have m:=CP.dm_ne g.2 h.2;constructor
 ·intro k;rcases k with k | k
  ·left; rw [<-h1,k,q9]
  ·right; rw [<-h2,k,q9]
 ·intro k;rcases k with k | k
  ·left; exact (CP.noz _ _ (h1.trans k)).resolve_right p
  ·right; exact (CP.noz _ _ (h2.trans k)).resolve_right m
theorem aEl {g:CP.G} (h:e4 g):e4 (CP.neg g):=by
 rcases h with h | h
 ·left;show -g.1.1=0;rw [h]; grind (splits:=0) -lia -linarith
 ·right; exact h
theorem aTK (h:CP.G) {t:CP.G} (ht:e4 t):(CP.add h t).1.1=h.1.1*t.1.2+t.1.1*h.1.2 /\ (CP.add h t).1.2=h.1.2*t.1.2+h.1.1*t.1.1:=by
 have e:=ev1 (d:=CP.d) (x:=h.1.1) (y:=h.1.2) ht;have e1:CP.dp h.1 t.1=1:=e.1;have e2:CP.dm h.1 t.1=1:=e.2;have h1:=aOZ h t;have h2:=aO0 h t;rw [e1,Ao] at h1;rw [e2,Ao] at h2;exact ⟨h1,h2⟩
theorem Tx {a b:Fin QP} (h:a*a=b*b):a=b ∨ a=-b:=by
 have:(a - b)*(a+b)=0:=by grind (splits:=0) -lia -linarith
 rcases CP.noz _ _ this with h | h
 ·left; grind (splits:=0) -lia -linarith
 ·right; grind (splits:=0) -lia -linarith
theorem aZ9 (g:CP.G):g.1.2*g.1.2 - g.1.1*g.1.1=1+CP.d*g.1.1*g.1.1*g.1.2*g.1.2:=g.2
theorem aTL {t:CP.G} (ht:e4 t):(t.1.1=0 /\ (t.1.2=1 ∨ t.1.2=-1)) ∨ (t.1.2=0 /\ (t.1.1=CP.i ∨ t.1.1=-CP.i)):=by
 have o:=aZ9 t;have hi:=CP.ii;rcases ht with h | h
 ·left;exact ⟨h,Tx (ev4 h o)⟩
 ·right;exact ⟨h,Tx (ev5 hi h o)⟩
theorem aYk {h t:CP.G} (ht:e4 t):((CP.add h t).1.1=h.1.1 /\ (CP.add h t).1.2=h.1.2) ∨ ((CP.add h t).1.1=-h.1.1 /\ (CP.add h t).1.2=-h.1.2) ∨
  ((CP.add h t).1.1=CP.i*h.1.2 /\ (CP.add h t).1.2=CP.i*h.1.1) ∨ ((CP.add h t).1.1=-(CP.i*h.1.2) /\ (CP.add h t).1.2=-(CP.i*h.1.1)):=by
 obtain ⟨e1,e2⟩:=aTK h ht;rcases aTL ht with ⟨a,b | b⟩ | ⟨a,b | b⟩
 ·rw [a,b] at e1 e2;left; constructor
  ·rw [e1]; grind (splits:=0) -lia -linarith
  ·rw [e2]; grind (splits:=0) -lia -linarith
 ·rw [a,b] at e1 e2;right; left; constructor
  ·rw [e1]; grind (splits:=0) -lia -linarith
  ·rw [e2]; grind (splits:=0) -lia -linarith
 ·rw [a,b] at e1 e2;right; right; left; constructor
  ·rw [e1]; grind (splits:=0) -lia -linarith
  ·rw [e2]; grind (splits:=0) -lia -linarith
 ·rw [a,b] at e1 e2;right; right; right; constructor
  ·rw [e1]; grind (splits:=0) -lia -linarith
  ·rw [e2]; grind (splits:=0) -lia -linarith
section
variable {q:Nat} [NeZero q]
end
def sim (g h:CP.G):Prop:=e4 (CP.add h (CP.neg g))
theorem aEm {g h:CP.G} (k:sim g h):∃ t,e4 t /\ h=CP.add g t:=by
 refine ⟨_,k,?_⟩;rw [CP.add_comm h,<-CP.add_assoc,CP.add_neg,CP.zero_add]
theorem aTN {g h t:CP.G} (ht:e4 t) (e:h=CP.add g t):sim g h:=by
 subst e;show e4 (CP.add (CP.add g t) (CP.neg g));rw [CP.add_comm g t,CP.add_assoc,CP.add_neg,CP.add_zero];exact ht
theorem aKJ (g h:CP.G):sim g h ↔ (g.1.1*h.1.2=g.1.2*h.1.1 ∨ g.1.2*h.1.2=g.1.1*h.1.1):=by
 unfold sim;rw [Tw];show (h.1.1*g.1.2+-g.1.1*h.1.2=0 ∨ h.1.2*g.1.2+h.1.1*-g.1.1=0) ↔ _;constructor
 ·intro k;rcases k with k | k
  ·left; grind (splits:=0) -lia -linarith
  ·right; grind (splits:=0) -lia -linarith
 ·intro k;rcases k with k | k
  ·left; grind (splits:=0) -lia -linarith
  ·right; grind (splits:=0) -lia -linarith
structure Canon (h:CP.G):Prop where
 x:k6 h.1.1=false
 t:k6 (h.1.1*h.1.2)=false
 z:h.1.1*h.1.2=0->h=CP.zero
structure Told (h:CP.G) (s:Fin QP):Prop where
 even:k6 s=false
 root:s*s*(1+h.1.2)=1 - h.1.2
theorem ec0 {q:Nat} [NeZero q] {y:Fin q} (e:1+y=0) (r:0=1 - y):(2:Fin q)=0:=by grind (splits:=0) -lia -linarith
theorem aYl {h:CP.G} {s:Fin QP} (k:Told h s):1+h.1.2 ≠ 0:=λ e=>by
 have r:=k.root;rw [e,jY] at r;exact CP.h2 (ec0 e r)
theorem Told.uniq {h:CP.G} {s s':Fin QP} (k:Told h s) (k':Told h s'):s=s' :=
 Wy k.even k'.even (Tx (CP.can (aYl k) (k.root.trans k'.root.symm)))
theorem aEn {x y:Fin QP} (hx:x*y ≠ 0) (h:k6 (x*y)=false):k6 (CP.i*y*(CP.i*x))=true:=by
 have hi:=CP.ii;have e:CP.i*y*(CP.i*x)=-(x*y):=by
  have e1:CP.i*y*(CP.i*x)=CP.i*CP.i*(x*y):=by clear hx h hi; grind (splits:=0) -lia -linarith
  rw [e1,hi]; clear e1 hx h hi; grind (splits:=0) -lia -linarith
 rw [e,Dh hx,h]; rfl
section
variable {q:Nat} [NeZero q]
theorem ec1 {x y:Fin q}:-x*-y=x*y /\ -x*-y=x*y:=by constructor <;> grind (splits:=0) -lia -linarith
theorem ec2 {i x y:Fin q}:-(i*y)*-(i*x)=i*y*(i*x):=by grind (splits:=0) -lia -linarith
theorem ec3 {i x y:Fin q} (h:x*y=0):i*y*(i*x)=0:=by
 have:i*y*(i*x)=i*i*(x*y):=by clear h; grind (splits:=0) -lia -linarith
 rw [this,h,jY]
end
theorem Canon.uniq {h h':CP.G} (c:Canon h) (c':Canon h') (k:sim h h'):h'=h:=by
 obtain ⟨t,ht,rfl⟩:=aEm k;have cs:=aYk (h:=h) ht;by_cases h0:h.1.1*h.1.2=0
 ·have hz:=c.z h0;have h1:(CP.add h t).1.1*(CP.add h t).1.2=0:=by
   rcases cs with ⟨a,b⟩ | ⟨a,b⟩ | ⟨a,b⟩ | ⟨a,b⟩ <;> rw [a,b]
   ·exact h0
   ·rw [ec1.1,h0]
   ·exact ec3 h0
   ·rw [ec2]; exact ec3 h0
  rw [c'.z h1,hz]
 ·have hx:h.1.1 ≠ 0:=λ e=>h0 (by rw [e,q9]);rcases cs with ⟨a,b⟩ | ⟨a,b⟩ | ⟨a,b⟩ | ⟨a,b⟩
  ·exact yW (BZ a b)
  ·have:=c'.x;rw [a,Dh hx,c.x] at this;cases this
  ·have:=c'.t;rw [a,b,aEn h0 c.t] at this;cases this
  ·have:=c'.t;rw [a,b,ec2,aEn h0 c.t] at this;cases this
section
variable {q:Nat} [NeZero q]
end
def paV (s:Fin QP):Fin QP:=-(CP.d*((1 - s*s)*(1 - s*s))) - (1+s*s)*(1+s*s)
def Wp (s:Fin QP):Fin QP × Bool:=Di 1 (paV s*((1+s*s)*(1+s*s)))
def Wq (s:Fin QP):Fin QP:=qA ((s+s)*((Wp s).1*(1+s*s)))
def Zw (s:Fin QP):Fin QP:=(1 - s*s)*((Wp s).1*((Wp s).1*(1+s*s))*paV s)
section
variable {q:Nat} [NeZero q]
theorem da7 {a x X:Fin q} (ha:a=x ∨ a=-x) (h:x*x=X*X):a*a=X*X:=by
 rw [<-h];rcases ha with rfl | rfl
 ·rfl
 ·clear h; grind (splits:=0) -lia -linarith
end
section
variable {q:Nat} [NeZero q]
end
section
variable {q:Nat} [NeZero q]
end
theorem bAa:0 < LN:=by decide
open Go Go.Proofs
set_option linter.unusedSimpArgs false
def pU1 (s:Fe):Fe:=cJ (fe 1) (aO s s)
def Ni (s:Fe):Fe:=gC (fe 1) (aO s s)
def pVF (s:Fe):Fe:=cJ (cJ f0 (aO dF (aO (pU1 s) (pU1 s)))) (aO (Ni s) (Ni s))
def Ty (s:Fe):Fe × Bool:=mI (fe 1) (aO (pVF s) (aO (Ni s) (Ni s)))
def Zx (s:Fe):Fe:=wJ (aO (gC s s) (aO (Ty s).1 (Ni s)))
def KQ (s:Fe):Fe:=aO (pU1 s) (aO (aO (Ty s).1 (aO (Ty s).1 (Ni s))) (pVF s))
def pTF (s:Fe):Fe:=aO (Zx s) (KQ s)
def I7 (s:Fe):Bool:=!oX s && ((Ty s).2 && (!oX (pTF s) && !Gn (KQ s)))
def ptP (s:Fe):Pt:=⟨Zx s,KQ s,fe 1,pTF s⟩
set_option linter.unusedSectionVars false
theorem aTO {p q:Pt} {g h:CP.G} (hp:PT p g) (hq:PT q h):vM p q=true ↔ sim g h:=by
 rw [aKJ];unfold vM;rw [J7,II,II,bL,bL,bL,bL,hp.x,hp.y,hq.x,hq.y];have z:=CP.mul_ne hp.z hq.z;have r:∀ a b c e:Fin QP,a*ph p.z*(b*ph q.z)=c*ph p.z*(e*ph q.z) ↔ a*b=c*e:=λ a b c e=>by
  have e1:a*ph p.z*(b*ph q.z)=a*b*(ph p.z*ph q.z):=by grind (splits:=0) -lia -linarith
  have e2:c*ph p.z*(e*ph q.z)=c*e*(ph p.z*ph q.z):=by grind (splits:=0) -lia -linarith
  rw [e1,e2];exact ⟨λ h=>CP.can z h,λ h=>by rw [h]⟩
 rw [r,r]
section
variable {s:Fe} (hs:cN s)
include hs
theorem Tz:cN (pU1 s):=cL (cV 1)
theorem AF:cN (Ni s):=cD (cV 1) (aL hs hs)
theorem UA:cN (pVF s):=cL (cL tC)
theorem aEq:cN (aO (pVF s) (aO (Ni s) (Ni s))):=aL (UA hs) (aL (AF hs) (AF hs))
theorem Qy:cN (Ty s).1:=Gu (cV 1) (aEq hs)
theorem Nj:cN (Zx s):=MD (aL (cD hs hs) (aL (Qy hs) (AF hs)))
theorem Nk:cN (KQ s):=aL (Tz hs) (aL (aL (Qy hs) (aL (Qy hs) (AF hs))) (UA hs))
theorem aEr:cN (pTF s):=aL (Nj hs) (Nk hs)
theorem aEs:ph (pU1 s)=1 - ph s*ph s:=by
 unfold pU1;rw [mF (aL hs hs),bL,IJ]
theorem Nl:ph (Ni s)=1+ph s*ph s:=by
 unfold Ni;rw [oV,bL,IJ]
theorem aEt:ph (pVF s)=paV (ph s):=by
 have k1:=Tz hs;unfold pVF paV;rw [mF (aL (AF hs) (AF hs)),mF (aL uO (aL k1 k1)),bL,bL,bL,aEs hs,Nl hs,P7,aXI,tB]
theorem Nm:ph (Ty s).1=(Wp (ph s)).1 /\ (Ty s).2=(Wp (ph s)).2:=by
 have h:=UF (cV 1) (aEq hs);rw [IJ,bL,bL,aEt hs,Nl hs] at h;exact h
theorem aEu:ph (Zx s)=Wq (ph s):=by
 have h:=aL (cD hs hs) (aL (Qy hs) (AF hs));unfold Zx Wq;rw [UE h,bL,oV,bL,(Nm hs).1,Nl hs]
theorem Nn:ph (KQ s)=Zw (ph s):=by
 unfold KQ Zw;rw [bL,bL,bL,bL,(Nm hs).1,Nl hs,aEs hs,aEt hs]
end
end Go.Eng
