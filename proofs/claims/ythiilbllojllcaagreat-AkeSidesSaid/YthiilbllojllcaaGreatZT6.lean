import Derived.Test.YthiilbllojllcaaGreatZT3
namespace Go.Eng
set_option linter.unusedVariables false
def e4 (g:CP.G):Prop:=g.1.1=0 ∨ g.1.2=0
section
variable {q:Nat} [NeZero q]
theorem ev1 {d x y u v:Fin q} (h:u=0 ∨ v=0):1+d*x*y*u*v=1 /\ 1 - d*x*y*u*v=1:=by
 rcases h with rfl | rfl <;> constructor <;> grind (splits:=0) -lia -linarith
theorem ev2 {x y u v:Fin q} (h:x=0 ∨ y=0) (k:u=0 ∨ v=0):x*v+u*y=0 ∨ y*v+x*u=0:=by
 rcases h with rfl | rfl <;> rcases k with rfl | rfl
 ·left; grind (splits:=0) -lia -linarith
 ·right; grind (splits:=0) -lia -linarith
 ·right; grind (splits:=0) -lia -linarith
 ·left; grind (splits:=0) -lia -linarith
theorem ev4 {d x y:Fin q} (h:x=0) (o:y*y - x*x=1+d*x*x*y*y):y*y=1*1:=by
 subst h;grind (splits:=0) -lia -linarith
theorem ev5 {d x y i:Fin q} (hi:i*i=-1) (h:y=0) (o:y*y - x*x=1+d*x*x*y*y):x*x=i*i:=by
 subst h;grind (splits:=0) -lia -linarith
end
theorem aWt (g h:CP.G):(CP.add g h).1.1*CP.dp g.1 h.1=g.1.1*h.1.2+h.1.1*g.1.2:=CP.ad_x g.2 h.2
theorem aAx (g h:CP.G):(CP.add g h).1.2*CP.dm g.1 h.1=g.1.2*h.1.2+g.1.1*h.1.1:=CP.ad_y g.2 h.2
theorem Ki (g h:CP.G):e4 (CP.add g h) ↔ (g.1.1*h.1.2+h.1.1*g.1.2=0 ∨ g.1.2*h.1.2+g.1.1*h.1.1=0):=by
 have h1:=aWt g h;have h2:=aAx g h;have p:=CP.dp_ne g.2 h.2;have m:=CP.dm_ne g.2 h.2;constructor
 ·intro k;rcases k with k | k
  ·left; rw [<-h1,k,lB]
  ·right; rw [<-h2,k,lB]
 ·intro k;rcases k with k | k
  ·left; exact (CP.noz _ _ (h1.trans k)).resolve_right p
  ·right; exact (CP.noz _ _ (h2.trans k)).resolve_right m
theorem aAy:e4 CP.zero:=.inl rfl
theorem XO {g:CP.G} (h:e4 g):e4 (CP.neg g):=by
 rcases h with h | h
 ·left;show -g.1.1=0;rw [h]; grind (splits:=0) -lia -linarith
 ·right; exact h
theorem P1 {g h:CP.G} (hg:e4 g) (hh:e4 h):e4 (CP.add g h):=(Ki g h).2 (ev2 hg hh)
theorem P2 {g:CP.G} (h:e4 g) (n:Nat):e4 (CP.nsm n g):=by
 induction n with
 | zero=>exact aAy
 | succ n ih=>rw [CP.nsm_add,CP.nsm_one]; exact P1 ih h
theorem XP (h:CP.G) {t:CP.G} (ht:e4 t):(CP.add h t).1.1=h.1.1*t.1.2+t.1.1*h.1.2 /\ (CP.add h t).1.2=h.1.2*t.1.2+h.1.1*t.1.1:=by
 have e:=ev1 (d:=CP.d) (x:=h.1.1) (y:=h.1.2) ht;have e1:CP.dp h.1 t.1=1:=e.1;have e2:CP.dm h.1 t.1=1:=e.2;have h1:=aWt h t;have h2:=aAx h t;rw [e1,iX] at h1;rw [e2,iX] at h2;exact ⟨h1,h2⟩
theorem Kj {a b:Fin QP} (h:a*a=b*b):a=b ∨ a=-b:=by
 have:(a - b)*(a+b)=0:=by grind (splits:=0) -lia -linarith
 rcases CP.noz _ _ this with h | h
 ·left; grind (splits:=0) -lia -linarith
 ·right; grind (splits:=0) -lia -linarith
theorem P4 (g:CP.G):g.1.2*g.1.2 - g.1.1*g.1.1=1+CP.d*g.1.1*g.1.1*g.1.2*g.1.2:=g.2
theorem aHZ {t:CP.G} (ht:e4 t):(t.1.1=0 /\ (t.1.2=1 ∨ t.1.2=-1)) ∨ (t.1.2=0 /\ (t.1.1=CP.i ∨ t.1.1=-CP.i)):=by
 have o:=P4 t;have hi:=CP.ii;rcases ht with h | h
 ·left;exact ⟨h,Kj (ev4 h o)⟩
 ·right;exact ⟨h,Kj (ev5 hi h o)⟩
theorem bGE {h t:CP.G} (ht:e4 t):((CP.add h t).1.1=h.1.1 /\ (CP.add h t).1.2=h.1.2) ∨ ((CP.add h t).1.1=-h.1.1 /\ (CP.add h t).1.2=-h.1.2) ∨
  ((CP.add h t).1.1=CP.i*h.1.2 /\ (CP.add h t).1.2=CP.i*h.1.1) ∨ ((CP.add h t).1.1=-(CP.i*h.1.2) /\ (CP.add h t).1.2=-(CP.i*h.1.1)):=by
 obtain ⟨e1,e2⟩:=XP h ht;rcases aHZ ht with ⟨a,b | b⟩ | ⟨a,b | b⟩
 ·rw [a,b] at e1 e2;left; constructor
  ·rw [e1]; grind (splits:=0) -lia -linarith
  ·rw [e2]; grind (splits:=0) -lia -linarith
 ·rw [a,b] at e1 e2;right; left; constructor
  ·rw [e1]; grind (splits:=0) -lia -linarith
  ·rw [e2]; grind (splits:=0) -lia -linarith
 ·rw [a,b] at e1 e2;right; right; left; constructor
  ·rw [e1]; grind (splits:=0) -lia -linarith
  ·rw [e2]; grind (splits:=0) -lia -linarith
 ·rw [a,b] at e1 e2;right; right; right; constructor
  ·rw [e1]; grind (splits:=0) -lia -linarith
  ·rw [e2]; grind (splits:=0) -lia -linarith
def eK:Fin QP:=fn 25063068953384623474111414158702152701244531502492656460079210482610430750235
theorem aAz:eK*eK=-1 - CP.d:=by
 have:fn (25063068953384623474111414158702152701244531502492656460079210482610430750235*25063068953384623474111414158702152701244531502492656460079210482610430750235+1+A1)=0:=jA.2 (by decide +kernel);rw [fQ,fQ,bI,jK] at this;have e:eK*eK+1+CP.d=0:=this;generalize CP.d=d at *;generalize eK=k at *;grind (splits:=0) -lia -linarith
def Ev (g:CP.G):Prop:=∃ w:Fin QP,w*w=-(1+CP.d*(g.1.2*g.1.2))
theorem bJu (g:CP.G):1+CP.d*(g.1.2*g.1.2) ≠ 0:=by
 intro h;have o:=P4 g;have h1:g.1.2*g.1.2=1:=by
  have:g.1.2*g.1.2 - 1=g.1.1*g.1.1*(1+CP.d*(g.1.2*g.1.2)):=by clear h; grind (splits:=0) -lia -linarith
  rw [h,gV] at this;clear o h;grind (splits:=0) -lia -linarith
 rw [h1] at h;exact CP.dm1 (by rw [<-h,iX])
theorem aAA {g:CP.G} {w:Fin QP} (h:w*w=-(1+CP.d*(g.1.2*g.1.2))):w ≠ 0:=λ h0=>bJu g (by
 rw [h0] at h;generalize CP.d*(g.1.2*g.1.2)=u at *;grind (splits:=0) -lia -linarith)
section
variable {q:Nat} [NeZero q]
theorem ev3 {d k x1 y1 x2 y2 y3 m f1 f2 f3 A:Fin q} (hk:k*k=-1 - d) (o1:y1*y1 - x1*x1=1+d*x1*x1*y1*y1) (o2:y2*y2 - x2*x2=1+d*x2*x2*y2*y2)
  (hm:m=1 - d*x1*y1*x2*y2) (h3:y3*m=y1*y2+x1*x2) (e1:f1=-(1+d*(y1*y1))) (e2:f2=-(1+d*(y2*y2))) (e3:f3=-(1+d*(y3*y3))) (eA:A=1+d*(y1*y1)*(y2*y2)) :
  f3*(m*m)*(f1*f2)=k*A*(k*A):=by
 have a1:f1*(x1*x1)=1 - y1*y1:=by rw [e1]; clear hk o2 hm h3 e1 e2 e3 eA; grind (splits:=0) -lia -linarith
 have a2:f2*(x2*x2)=1 - y2*y2:=by rw [e2]; clear hk o1 hm h3 e1 e2 e3 eA a1; grind (splits:=0) -lia -linarith
 have a3:f3*(m*m)=-(m*m+d*((y3*m)*(y3*m))):=by rw [e3]; clear hk o1 o2 hm h3 e1 e2 e3 eA a1 a2; grind (splits:=0) -lia -linarith
 have a4:m*m+d*((y1*y2+x1*x2)*(y1*y2+x1*x2))=A*(1+d*((x1*x1)*(x2*x2))):=by rw [hm,eA]; clear hk o1 o2 hm h3 e1 e2 e3 eA a1 a2 a3; grind (splits:=0) -lia -linarith
 have a5:(1+d*((x1*x1)*(x2*x2)))*(f1*f2)=f1*f2+d*((f1*(x1*x1))*(f2*(x2*x2))):=by clear hk o1 o2 hm h3 e1 e2 e3 eA a1 a2 a3 a4; grind (splits:=0) -lia -linarith
 rw [a1,a2] at a5;have a6:f1*f2+d*((1 - y1*y1)*(1 - y2*y2))=(1+d)*A:=by rw [e1,e2,eA]; clear hk o1 o2 hm h3 e1 e2 e3 eA a1 a2 a3 a4 a5; grind (splits:=0) -lia -linarith
 rw [a3,h3,a4];have a7:-(A*(1+d*((x1*x1)*(x2*x2))))*(f1*f2)=-(A*((1+d*((x1*x1)*(x2*x2)))*(f1*f2))):=by clear hk o1 o2 hm h3 e1 e2 e3 eA a1 a2 a3 a4 a5 a6; grind (splits:=0) -lia -linarith
 rw [a7,a5,a6];have a8:k*A*(k*A)=k*k*(A*A):=by clear hk o1 o2 hm h3 e1 e2 e3 eA a1 a2 a3 a4 a5 a6 a7; grind (splits:=0) -lia -linarith
 rw [a8,hk];clear hk o1 o2 hm h3 e1 e2 e3 eA a1 a2 a3 a4 a5 a6 a7 a8;grind (splits:=0) -lia -linarith
end
theorem aP6 {g h:CP.G} {w:Fin QP} (hw:w*w=(1+CP.d*(g.1.2*g.1.2))*(1+CP.d*(h.1.2*h.1.2))) (w0:w ≠ 0):Ev (CP.add g h):=by
 have m0:=CP.dm_ne g.2 h.2;have key:=ev3 (y3:=(CP.add g h).1.2) aAz (P4 g) (P4 h) (m:=CP.dm g.1 h.1) rfl (aAx g h) rfl rfl rfl rfl;have z:=CP.mul_ne m0 w0;refine ⟨eK*(1+CP.d*(g.1.2*g.1.2)*(h.1.2*h.1.2))*CP.inv (CP.dm g.1 h.1*w),?_⟩;have hv:=CP.inv_mul _ z;refine CP.can (CP.mul_ne z z) ?_;generalize (CP.add g h).1.2=y3 at *;generalize CP.dm g.1 h.1=m at *;generalize eK*(1+CP.d*(g.1.2*g.1.2)*(h.1.2*h.1.2))=kA at *;generalize CP.inv (m*w)=j at *;generalize 1+CP.d*(g.1.2*g.1.2)=f1 at *;generalize 1+CP.d*(h.1.2*h.1.2)=f2 at *;generalize -(1+CP.d*(y3*y3))=f3 at *;have e1:kA*j*(kA*j)*(m*w*(m*w))=kA*kA*((m*w*j)*(m*w*j)):=by clear key hv hw; grind (splits:=0) -lia -linarith
 rw [e1,hv,<-key];have e2:f3*(m*w*(m*w))=f3*(m*m)*(w*w):=by clear key hv hw e1; grind (splits:=0) -lia -linarith
 rw [e2,hw];clear key hv hw e1 e2;grind (splits:=0) -lia -linarith
theorem yJ {g h:CP.G} (hg:Ev g) (hh:Ev h):Ev (CP.add g h):=by
 obtain ⟨a,ha⟩:=hg;obtain ⟨b,hb⟩:=hh;refine aP6 (w:=a*b) ?_ (CP.mul_ne (aAA ha) (aAA hb));have:a*b*(a*b)=a*a*(b*b):=by clear ha hb; grind (splits:=0) -lia -linarith
 rw [this,ha,hb];clear this ha hb;grind (splits:=0) -lia -linarith
theorem aH0 {g:CP.G} (h:Ev g):Ev (CP.neg g):=h
theorem aP7:Ev CP.zero:=⟨eK,by
 rw [aAz];show -1 - CP.d=-(1+CP.d*(1*1));grind (splits:=0) -lia -linarith⟩
theorem P5 {g:CP.G} (h:Ev g) (n:Nat):Ev (CP.nsm n g):=by
 induction n with
 | zero=>exact aP7
 | succ n ih=>rw [CP.nsm_add,CP.nsm_one]; exact yJ ih h
theorem Kk {t:CP.G} (ht:e4 t):Ev t:=by
 have hi:=CP.ii;have hk:=aAz;rcases aHZ ht with ⟨_,b | b⟩ | ⟨a,_⟩
 ·exact ⟨eK,by rw [b,hk]; grind (splits:=0) -lia -linarith⟩
 ·exact ⟨eK,by rw [b,hk]; grind (splits:=0) -lia -linarith⟩
 ·exact ⟨CP.i,by rw [a,hi]; grind (splits:=0) -lia -linarith⟩
def Ds (g h:CP.G):Prop:=e4 (CP.add h (CP.neg g))
theorem pM {g h:CP.G} (k:Ds g h):∃ t,e4 t /\ h=CP.add g t:=by
 refine ⟨_,k,?_⟩;rw [CP.add_comm h,<-CP.add_assoc,CP.add_neg,CP.zero_add]
theorem HT {g h t:CP.G} (ht:e4 t) (e:h=CP.add g t):Ds g h:=by
 subst e;show e4 (CP.add (CP.add g t) (CP.neg g));rw [CP.add_comm g t,CP.add_assoc,CP.add_neg,CP.add_zero];exact ht
theorem To (g:CP.G):Ds g g:=HT aAy (CP.add_zero g).symm
theorem BS {g h:CP.G} (k:Ds g h):Ds h g:=by
 obtain ⟨t,ht,e⟩:=pM k;refine HT (XO ht) ?_;rw [e,CP.add_assoc,CP.add_neg,CP.add_zero]
theorem rE {g h k:CP.G} (a:Ds g h) (b:Ds h k):Ds g k:=by
 obtain ⟨t,ht,e⟩:=pM a;obtain ⟨u,hu,e'⟩:=pM b;refine HT (P1 ht hu) ?_;rw [e',e,CP.add_assoc]
theorem aP8 {g h g' h':CP.G} (a:Ds g g') (b:Ds h h'):Ds (CP.add g h) (CP.add g' h'):=by
 obtain ⟨t,ht,rfl⟩:=pM a;obtain ⟨u,hu,rfl⟩:=pM b;refine HT (P1 ht hu) ?_;rw [CP.add_assoc,<-CP.add_assoc t h u,CP.add_comm t h,CP.add_assoc,CP.add_assoc]
theorem FU (g h:CP.G):Ds g h ↔ (g.1.1*h.1.2=g.1.2*h.1.1 ∨ g.1.2*h.1.2=g.1.1*h.1.1):=by
 unfold Ds;rw [Ki];show (h.1.1*g.1.2+-g.1.1*h.1.2=0 ∨ h.1.2*g.1.2+h.1.1*-g.1.1=0) ↔ _;constructor
 ·intro k;rcases k with k | k
  ·left; grind (splits:=0) -lia -linarith
  ·right; grind (splits:=0) -lia -linarith
 ·intro k;rcases k with k | k
  ·left; grind (splits:=0) -lia -linarith
  ·right; grind (splits:=0) -lia -linarith
structure Canon (h:CP.G):Prop where
 x:i6 h.1.1=false
 t:i6 (h.1.1*h.1.2)=false
 z:h.1.1*h.1.2=0->h=CP.zero
structure Told (h:CP.G) (s:Fin QP):Prop where
 even:i6 s=false
 root:s*s*(1+h.1.2)=1 - h.1.2
theorem ec0 {q:Nat} [NeZero q] {y:Fin q} (e:1+y=0) (r:0=1 - y):(2:Fin q)=0:=by grind (splits:=0) -lia -linarith
theorem aWu {h:CP.G} {s:Fin QP} (k:Told h s):1+h.1.2 ≠ 0:=λ e=>by
 have r:=k.root;rw [e,gV] at r;exact CP.h2 (ec0 e r)
theorem Told.uniq {h:CP.G} {s s':Fin QP} (k:Told h s) (k':Told h s'):s=s' :=
 Pa k.even k'.even (Kj (CP.can (aWu k) (k.root.trans k'.root.symm)))
theorem aH1 {x y:Fin QP} (hx:x*y ≠ 0) (h:i6 (x*y)=false):i6 (CP.i*y*(CP.i*x))=true:=by
 have hi:=CP.ii;have e:CP.i*y*(CP.i*x)=-(x*y):=by
  have e1:CP.i*y*(CP.i*x)=CP.i*CP.i*(x*y):=by clear hx h hi; grind (splits:=0) -lia -linarith
  rw [e1,hi]; clear e1 hx h hi; grind (splits:=0) -lia -linarith
 rw [e,sS hx,h]; rfl
section
variable {q:Nat} [NeZero q]
theorem ec1 {x y:Fin q}:-x*-y=x*y /\ -x*-y=x*y:=by constructor <;> grind (splits:=0) -lia -linarith
theorem ec2 {i x y:Fin q}:-(i*y)*-(i*x)=i*y*(i*x):=by grind (splits:=0) -lia -linarith
theorem ec3 {i x y:Fin q} (h:x*y=0):i*y*(i*x)=0:=by
 have:i*y*(i*x)=i*i*(x*y):=by clear h; grind (splits:=0) -lia -linarith
 rw [this,h,gV]
end
theorem Canon.uniq {h h':CP.G} (c:Canon h) (c':Canon h') (k:Ds h h'):h'=h:=by
 obtain ⟨t,ht,rfl⟩:=pM k;have cs:=bGE (h:=h) ht;by_cases h0:h.1.1*h.1.2=0
 ·have hz:=c.z h0;have h1:(CP.add h t).1.1*(CP.add h t).1.2=0:=by
   rcases cs with ⟨a,b⟩ | ⟨a,b⟩ | ⟨a,b⟩ | ⟨a,b⟩ <;> rw [a,b]
   ·exact h0
   ·rw [ec1.1,h0]
   ·exact ec3 h0
   ·rw [ec2]; exact ec3 h0
  rw [c'.z h1,hz]
 ·have hx:h.1.1 ≠ 0:=λ e=>h0 (by rw [e,lB]);rcases cs with ⟨a,b⟩ | ⟨a,b⟩ | ⟨a,b⟩ | ⟨a,b⟩
  ·exact oJ (qN a b)
  ·have:=c'.x;rw [a,sS hx,c.x] at this;cases this
  ·have:=c'.t;rw [a,b,aH1 h0 c.t] at this;cases this
  ·have:=c'.t;rw [a,b,ec2,aH1 h0 c.t] at this;cases this
section
variable {q:Nat} [NeZero q]
theorem ed1 {d x y w:Fin q} (o:y*y - x*x=1+d*x*x*y*y) (hw:w*w=-(1+d*(y*y))):(1+y)*(1 - y)*(x*y*(x*y))=w*(x*x*y)*(w*(x*x*y)):=by
 have e1:w*(x*x*y)*(w*(x*x*y))=w*w*(x*x*y*(x*x*y)):=by clear o hw; grind (splits:=0) -lia -linarith
 have e2:(1+y)*(1 - y)=-(x*x)*(1+d*(y*y)):=by clear hw e1; grind (splits:=0) -lia -linarith
 rw [e1,hw,e2];clear e1 e2 o hw;grind (splits:=0) -lia -linarith
theorem ed2 {v w r i:Fin q} (hv:v=w*w) (h:v*(r*r)=i*1):w*r*(w*r)=i*(1*1):=by
 subst hv;rw [<-show w*w*(r*r)=w*r*(w*r) by clear h; grind (splits:=0) -lia -linarith,h];grind (splits:=0) -lia -linarith
theorem ed3 {r x y:Fin q} (h:(1+y)*(1 - y)*(x*y*(x*y))*(r*r)=1):r*(x*y)*(r*(x*y))*(1 - y*y)=1:=by
 refine iW ?_ h;clear h; grind (splits:=0) -lia -linarith
theorem ed4 {d r x y c i:Fin q} (hi:i*i=-1) (o:y*y - x*x=1+d*x*x*y*y) (hc:c*c*(-1 - d)=1) (h:(1+y)*(1 - y)*(x*y*(x*y))*(r*r)=1) :
  r*((1+y)*(1 - y))*c*(r*((1+y)*(1 - y))*c)*(1 - x*i*(x*i))=1:=by
 have e1:1 - x*i*(x*i)=1+x*x:=by
  have:x*i*(x*i)=i*i*(x*x):=by clear o hc h hi; grind (splits:=0) -lia -linarith
  rw [this,hi]; clear this o hc h hi; grind (splits:=0) -lia -linarith
 have e2:(1+x*x)*((1+y)*(1 - y))=(-1 - d)*(x*y*(x*y)):=by clear hc h hi e1; grind (splits:=0) -lia -linarith
 have e3:r*((1+y)*(1 - y))*c*(r*((1+y)*(1 - y))*c)*(1+x*x)=r*r*((1+y)*(1 - y))*(c*c)*((1+x*x)*((1+y)*(1 - y))):=by clear hc h hi e1 e2 o; grind (splits:=0) -lia -linarith
 have e4:r*r*((1+y)*(1 - y))*(c*c)*((-1 - d)*(x*y*(x*y)))=(1+y)*(1 - y)*(x*y*(x*y))*(r*r)*(c*c*(-1 - d)):=by clear hc h hi e1 e2 e3 o; grind (splits:=0) -lia -linarith
 rw [e1,e3,e2,e4,h,hc,iX]
theorem ed5 {den Y s:Fin q} (hs:s=den*(1 - Y) ∨ s=-(den*(1 - Y))) (h:den*den*(1 - Y*Y)=1):s*s*(1+Y)=1 - Y:=by
 have e:s*s*(1+Y)=den*den*(1 - Y*Y)*(1 - Y):=by
  rcases hs with rfl | rfl <;> clear h <;> grind (splits:=0) -lia -linarith
 rw [e,h]; clear e hs h; grind (splits:=0) -lia -linarith
theorem ed6 {r x y v:Fin q} (hv:v=(1+y)*(1 - y)*(x*y*(x*y))) (h:v*(r*r)=1):r*((1+y)*(1 - y))*(r*(x*y))*(x*y)=1:=by
 subst hv;refine iW ?_ h;clear h; grind (splits:=0) -lia -linarith
theorem ed7 {d i x y:Fin q} (hi:i*i=-1) (o:y*y - x*x=1+d*x*x*y*y):i*x*(i*x) - i*y*(i*y)=1+d*(i*y)*(i*y)*(i*x)*(i*x):=by
 have e1:i*x*(i*x) - i*y*(i*y)=i*i*(x*x - y*y):=by clear hi o; grind (splits:=0) -lia -linarith
 have e2:1+d*(i*y)*(i*y)*(i*x)*(i*x)=1+d*(i*i*(i*i))*(x*x*(y*y)):=by clear hi o e1; grind (splits:=0) -lia -linarith
 rw [e1,e2,hi];clear e1 e2 hi;grind (splits:=0) -lia -linarith
theorem ed8 {d x y:Fin q} (o:y*y - x*x=1+d*x*x*y*y):-y*-y - -x*-x=1+d*-x*-x*-y*-y:=by grind (splits:=0) -lia -linarith
theorem ed9 {Y:Fin q}:-Y*-Y=Y*Y:=by grind (splits:=0) -lia -linarith
end
theorem bGF:cO*cO*(-1 - CP.d)=1:=by
 have:fn (Ti*Ti%aK*(aK - 1+(aK - A1)))=fn 1:=nT.2 (by decide +kernel);rw [bI,bR,bI,fQ,jK] at this;have a:fn (aK - 1)=-1:=by
  have h:fn (aK - 1+1)=0:=jA.2 (by decide);rw [fQ,jK] at h;grind (splits:=0) -lia -linarith
 have b:fn (aK - A1)=-CP.d:=by
  have h:fn (aK - A1+A1)=0:=jA.2 (by decide);rw [fQ] at h;have e:CP.d=fn A1:=rfl;rw [e];grind (splits:=0) -lia -linarith
 rw [a,b] at this;have e:cO=fn Ti:=rfl;rw [e];generalize fn Ti=c at *;generalize CP.d=d at *;refine iW ?_ this;clear this a b;grind (splits:=0) -lia -linarith
theorem aEe:oN 0=0:=rfl
theorem bAY {g:CP.G} (h0:g.1.1*g.1.2=0):ED g=0:=by
 have hv:(1+g.1.2)*(1 - g.1.2)*(g.1.1*g.1.2*(g.1.1*g.1.2))=0:=by rw [h0,gV,gV]
 unfold ED NN;rw [hv,(mS 1 0).zero rfl];unfold TN;have e:∀ b:Bool,cond b (0*((1+g.1.2)*(1 - g.1.2))*cO) (0*(g.1.1*g.1.2))=0:=by
  intro b;cases b
  ·rw [aE,lB]
  ·rw [aB,lB,lB]
 rw [e,lB,aEe]
theorem FV {g:CP.G} (hE:Ev g):∃ h,Ds g h /\ Canon h /\ Told h (ED g):=by
 by_cases h0:g.1.1*g.1.2=0
 ·refine ⟨CP.zero,?_,⟨rfl,rfl,λ _=>rfl⟩,?_⟩
  ·refine (FU g CP.zero).2 ?_;show g.1.1*1=g.1.2*0 ∨ g.1.2*1=g.1.1*0;rw [iX,iX,gV,gV];exact CP.noz _ _ h0
  ·rw [bAY h0];refine ⟨rfl,?_⟩;show (0:Fin QP)*0*(1+1)=1 - 1;grind (splits:=0) -lia -linarith
 ·have hx:g.1.1 ≠ 0:=λ e=>h0 (by rw [e,lB]);have hy:g.1.2 ≠ 0:=λ e=>h0 (by rw [e,gV]);have o:=P4 g;have hi:=CP.ii;obtain ⟨w,hw⟩:=hE;have hv:=ed1 o hw;have R:=mS 1 ((1+g.1.2)*(1 - g.1.2)*(g.1.1*g.1.2*(g.1.1*g.1.2)));have w0:w ≠ 0:=aAA hw;have v0:(1+g.1.2)*(1 - g.1.2)*(g.1.1*g.1.2*(g.1.1*g.1.2)) ≠ 0:=by
   rw [hv];have:=CP.mul_ne w0 (CP.mul_ne (CP.mul_ne hx hx) hy);exact CP.mul_ne this this
  have hb:(wV 1 ((1+g.1.2)*(1 - g.1.2)*(g.1.1*g.1.2*(g.1.1*g.1.2)))).2=true:=by
   cases hb:(wV 1 ((1+g.1.2)*(1 - g.1.2)*(g.1.1*g.1.2*(g.1.1*g.1.2)))).2
   ·exact (CP.h1 (aGw _ _ (ed2 hv (R.no hb v0)))).elim
   ·rfl
  have hr:=R.yes hb;unfold ED NN;generalize (wV 1 ((1+g.1.2)*(1 - g.1.2)*(g.1.1*g.1.2*(g.1.1*g.1.2)))).1=r at *;have hZ:zQ r g.1.1 g.1.2 1 (g.1.1*g.1.2)=1:=ed6 rfl hr;unfold TN;rw [hZ,iX,iX];cases hrot:i6 (g.1.1*g.1.2)
  ·rw [aE,aE,aE];have hd:=ed3 hr;cases hfl:i6 g.1.1
   ·rw [aE];refine ⟨g,To g,⟨hfl,hrot,λ e=>absurd e h0⟩,⟨q8 _,?_⟩⟩;exact ed5 (rT _) hd
   ·rw [aB];refine ⟨⟨(-g.1.1,-g.1.2),ed8 o⟩,?_,⟨?_,?_,?_⟩,⟨q8 _,?_⟩⟩
    ·refine (FU g _).2 (.inl ?_);show g.1.1*-g.1.2=g.1.2*-g.1.1;clear hd hr hw hv o hi R hb hZ; grind (splits:=0) -lia -linarith
    ·show i6 (-g.1.1)=false;rw [sS hx,hfl]; rfl
    ·show i6 (-g.1.1*-g.1.2)=false;rw [ec1.1]; exact hrot
    ·intro e;have e:-g.1.1*-g.1.2=0:=e;rw [ec1.1] at e;exact absurd e h0
    ·show _*_*(1+-g.1.2)=1 - -g.1.2;exact ed5 (rT _) (by rw [ed9]; exact hd)
  ·rw [aB,aB,aB];have hd:=ed4 hi o bGF hr;have ht:i6 (CP.i*g.1.2*(CP.i*g.1.1))=false:=by
    have e:CP.i*g.1.2*(CP.i*g.1.1)=-(g.1.1*g.1.2):=by
     have e1:CP.i*g.1.2*(CP.i*g.1.1)=CP.i*CP.i*(g.1.1*g.1.2):=by clear hd hr hw hv o hi R hb hZ; grind (splits:=0) -lia -linarith
     rw [e1,hi]; clear e1 hd hr hw hv o hi R hb hZ; grind (splits:=0) -lia -linarith
    rw [e,sS h0,hrot]; rfl
   have tz:CP.i*g.1.2*(CP.i*g.1.1) ≠ 0:=CP.mul_ne (CP.mul_ne CP.i_ne hy) (CP.mul_ne CP.i_ne hx);have c1:g.1.2*CP.i=CP.i*g.1.2:=IB _ _;have c2:g.1.1*CP.i=CP.i*g.1.1:=IB _ _;rw [c1,c2];rw [c2] at hd;have yi:CP.i*g.1.2 ≠ 0:=CP.mul_ne CP.i_ne hy;cases hfl:i6 (CP.i*g.1.2)
   ·rw [aE];refine ⟨⟨(CP.i*g.1.2,CP.i*g.1.1),ed7 hi o⟩,?_,⟨hfl,ht,λ e=>absurd e tz⟩,⟨q8 _,?_⟩⟩
    ·refine (FU g _).2 (.inr ?_);show g.1.2*(CP.i*g.1.1)=g.1.1*(CP.i*g.1.2);clear hd hr hw hv o hi R hb hZ; grind (splits:=0) -lia -linarith
    ·exact ed5 (rT _) hd
   ·rw [aB];refine ⟨⟨(-(CP.i*g.1.2),-(CP.i*g.1.1)),ed8 (ed7 hi o)⟩,?_,⟨?_,?_,?_⟩,⟨q8 _,?_⟩⟩
    ·refine (FU g _).2 (.inr ?_);show g.1.2*-(CP.i*g.1.1)=g.1.1*-(CP.i*g.1.2);clear hd hr hw hv o hi R hb hZ; grind (splits:=0) -lia -linarith
    ·show i6 (-(CP.i*g.1.2))=false;rw [sS yi,hfl]; rfl
    ·show i6 (-(CP.i*g.1.2)*-(CP.i*g.1.1))=false;rw [ec2]; exact ht
    ·intro e;have e:-(CP.i*g.1.2)*-(CP.i*g.1.1)=0:=e;rw [ec2] at e;exact absurd e tz
    ·show _*_*(1+-(CP.i*g.1.1))=1 - -(CP.i*g.1.1);exact ed5 (rT _) (by rw [ed9]; exact hd)
theorem aP9 {g g':CP.G} (hE:Ev g) (k:Ds g g'):ED g'=ED g:=by
 have hE':Ev g':=by
  obtain ⟨t,ht,rfl⟩:=pM k;exact yJ hE (Kk ht)
 obtain ⟨h,s1,c1,t1⟩:=FV hE;obtain ⟨h',s2,c2,t2⟩:=FV hE';have e:h'=h:=c1.uniq c2 (rE (BS s1) (rE k s2));subst e;exact t2.uniq t1
def XQ (s:Fin QP):Fin QP:=-(CP.d*((1 - s*s)*(1 - s*s))) - (1+s*s)*(1+s*s)
def NR (s:Fin QP):Fin QP × Bool:=wV 1 (XQ s*((1+s*s)*(1+s*s)))
def Wu (s:Fin QP):Fin QP:=oN ((s+s)*((NR s).1*(1+s*s)))
def XR (s:Fin QP):Fin QP:=(1 - s*s)*((NR s).1*((NR s).1*(1+s*s))*XQ s)
section
variable {q:Nat} [NeZero q]
theorem da1 {s Y:Fin q} (h:s*s*(1+Y)=1 - Y):(1 - s*s)*(1+Y)=Y+Y /\ (1+s*s)*(1+Y)=2:=by
 have e1:(1 - s*s)*(1+Y)=1+Y - s*s*(1+Y):=by clear h; grind (splits:=0) -lia -linarith
 have e2:(1+s*s)*(1+Y)=1+Y+s*s*(1+Y):=by clear h e1; grind (splits:=0) -lia -linarith
 rw [e1,e2,h];clear e1 e2 h;constructor <;> grind (splits:=0) -lia -linarith
theorem da2 {d a b W Y w:Fin q} (h1:a*W=Y+Y) (h2:b*W=2) (hw:w*w=-(1+d*(Y*Y))):(-(d*(a*a)) - b*b)*(W*W)=2*w*(2*w):=by
 have e:(-(d*(a*a)) - b*b)*(W*W)=-(d*((a*W)*(a*W))) - (b*W)*(b*W):=by clear h1 h2 hw; grind (splits:=0) -lia -linarith
 rw [e,h1,h2];have e2:2*w*(2*w)=4*(w*w):=by clear e h1 h2 hw; grind (splits:=0) -lia -linarith
 rw [e2,hw];clear e e2 h1 h2 hw;grind (splits:=0) -lia -linarith
theorem da3 {v b W w:Fin q} (h:v*(W*W)=2*w*(2*w)) (h2:b*W=2):v*(b*b)*(W*W*(W*W))=2*2*w*(2*2*w):=by
 have e:v*(b*b)*(W*W*(W*W))=v*(W*W)*((b*W)*(b*W)):=by clear h h2; grind (splits:=0) -lia -linarith
 rw [e,h,h2];clear e h h2;grind (splits:=0) -lia -linarith
theorem da4 {B r K c i:Fin q} (h:B*(K*K)=c*c) (hr:B*(r*r)=i*1):c*r*(c*r)=i*(K*K):=by
 have e:c*r*(c*r)=c*c*(r*r):=by clear h hr; grind (splits:=0) -lia -linarith
 have e2:B*(K*K)*(r*r)=B*(r*r)*(K*K):=by clear h hr e; grind (splits:=0) -lia -linarith
 rw [e,<-h,e2,hr,iX]
theorem da5 {a b r v W Y:Fin q} (hr:v*(b*b)*(r*r)=1) (h1:a*W=Y+Y) (h2:b*W=2):a*(r*(r*b)*v)*2=Y*2:=by
 have e:a*(r*(r*b)*v)*(b*W)=a*W*(v*(b*b)*(r*r)):=by clear hr h1 h2; grind (splits:=0) -lia -linarith
 rw [h2,hr,h1] at e;rw [e];clear e hr h1 h2;grind (splits:=0) -lia -linarith
theorem da6 {d s b r v W X Y w:Fin q} (hr:v*(b*b)*(r*r)=1) (hW:W=1+Y) (hs:s*s*W=1 - Y) (hv:v*(W*W)=2*w*(2*w)) (o:Y*Y - X*X=1+d*X*X*Y*Y) (hw:w*w=-(1+d*(Y*Y))) :
  (s+s)*(r*b)*((s+s)*(r*b))*(2*w*(2*w))=X*X*(2*w*(2*w)):=by
 have e1:(s+s)*(r*b)*((s+s)*(r*b))*(v*(W*W))=4*(s*s*W)*W*(v*(b*b)*(r*r)):=by clear hr hW hs hv o hw; grind (splits:=0) -lia -linarith
 rw [hv,hr,hs,hW,iX] at e1;have e2:X*X*(2*w*(2*w))=4*(X*X*(w*w)):=by clear hr hW hs hv o hw e1; grind (splits:=0) -lia -linarith
 rw [e1,e2,hw];clear e1 e2 hr hW hs hv hw;grind (splits:=0) -lia -linarith
theorem da7 {a x X:Fin q} (ha:a=x ∨ a=-x) (h:x*x=X*X):a*a=X*X:=by
 rw [<-h];rcases ha with rfl | rfl
 ·rfl
 ·clear h; grind (splits:=0) -lia -linarith
end
theorem XS {h:CP.G} {s:Fin QP} (c:Canon h) (k:Told h s) (hE:Ev h):(NR s).2=true /\ Wu s=h.1.1 /\ XR s=h.1.2:=by
 have W0:=aWu k;have hs:=k.root;have o:=P4 h;obtain ⟨w,hw⟩:=hE;have w0:w ≠ 0:=aAA hw;obtain ⟨h1,h2⟩:=da1 hs;have hv:XQ s*((1+h.1.2)*(1+h.1.2))=2*w*(2*w):=da2 h1 h2 hw;have hB:=da3 hv h2;have t0:(2:Fin QP) ≠ 0:=CP.h2;have c0:2*2*w ≠ 0:=CP.mul_ne (CP.mul_ne t0 t0) w0;have B0:XQ s*((1+s*s)*(1+s*s)) ≠ 0:=λ e=>by
  rw [e,lB] at hB;exact CP.mul_ne c0 c0 hB.symm
 have R:=mS 1 (XQ s*((1+s*s)*(1+s*s)));have eR:wV 1 (XQ s*((1+s*s)*(1+s*s)))=NR s:=rfl;rw [eR] at R;have hb:(NR s).2=true:=by
  cases hb:(NR s).2
  ·exact (CP.mul_ne W0 W0 (aGw _ _ (da4 hB (R.no hb B0)))).elim
  ·rfl
 have hr:=R.yes hb;refine ⟨hb,?_,?_⟩
 ·have e:=da6 hr rfl hs hv o hw;have z:=CP.mul_ne t0 w0;have e:=CP.can (CP.mul_ne z z) e;have ev:=q8 ((s+s)*((NR s).1*(1+s*s)));have pm:=rT ((s+s)*((NR s).1*(1+s*s)));exact Pa ev c.x (Kj (da7 pm e))
 ·exact CP.can t0 (da5 hr h1 h2)
theorem aQa {g:CP.G} (hE:Ev g):∃ h,Ds g h /\ (NR (ED g)).2=true /\ Wu (ED g)=h.1.1 /\ XR (ED g)=h.1.2 /\ i6 (h.1.1*h.1.2)=false /\ h.1.2 ≠ 0 /\ i6 (ED g)=false:=by
 obtain ⟨h,s1,c,k⟩:=FV hE;have hE':Ev h:=by
  obtain ⟨t,ht,rfl⟩:=pM s1;exact yJ hE (Kk ht)
 obtain ⟨a,b,d⟩:=XS c k hE';refine ⟨h,s1,a,b,d,c.t,λ e=>?_,k.even⟩;have hz:=c.z (by rw [e,gV]);rw [hz] at e;exact CP.h1 e
theorem bAZ:∀ (n m:Nat) (f:Nat->Nat),(∀ k,k < n->f k < m)->(∀ k l,k < n->l < n->f k=f l->k=l)->n <= m:=by
 intro n
 induction n with
 | zero=>intro m f _ _; exact oI _
 | succ n ih=>
  intro m f h1 h2;have hm:0 < m:=by have:=h1 n (by omega); omega
  obtain ⟨m,rfl⟩:∃ m',m=m'+1:=⟨m - 1,by omega⟩;have key:n <= m:=by
   refine ih m (λ k=>if f k=m then f n else f k) (λ k hk=>?_) (λ k l hk hl e=>?_)
   ·show (if f k=m then f n else f k) < m;have a:=h1 k (by omega);have b:=h1 n (by omega);split
    ·rename_i h;have:f n ≠ m:=λ e=>by have:=h2 k n (by omega) (by omega) (h.trans e.symm); omega
     omega
    ·rename_i h; omega
   ·have e:(if f k=m then f n else f k)=(if f l=m then f n else f l):=e;split at e <;> split at e
    ·rename_i a b; exact h2 k l (by omega) (by omega) (a.trans b.symm)
    ·have:=h2 n l (by omega) (by omega) e; omega
    ·have:=h2 k n (by omega) (by omega) e; omega
    ·exact h2 k l (by omega) (by omega) e
  omega
abbrev t8x:Nat:=14399317868200118260347934320527232580618823971194345261214217575416788799818
abbrev t8y:Nat:=2707385501144840649318225287225658788936804267575313519463743609750303402022
theorem bGG:CP.On2 (fn t8x,fn t8y):=aL6 (u:=t8x*t8x%aK) (v:=0) (w:=1+A1*t8x*t8x*t8y*t8y) rfl (by decide +kernel) rfl
def gT:CP.G:=⟨(fn t8x,fn t8y),bGG⟩
theorem aH2:(CP.nsm 2 gT).1.2=0:=by
 have e:CP.nsm 2 gT=CP.add gT gT:=by rw [CP.nsm_add 1 1,CP.nsm_one]
 rw [e];have h:=aAx gT gT;have m:=CP.dm_ne gT.2 gT.2;have z:gT.1.2*gT.1.2+gT.1.1*gT.1.1=0:=by
  show fn t8y*fn t8y+fn t8x*fn t8x=0;rw [<-bI,<-bI,<-fQ];exact jA.2 (by decide +kernel)
 exact (CP.noz _ _ (h.trans z)).resolve_right m
theorem aH3:e4 (CP.nsm 2 gT):=.inr aH2
section
variable {q:Nat} [NeZero q]
theorem tq1 {d x y:Fin q} (z:y=0) (o:y*y - x*x=1+d*x*x*y*y):x*y+x*y=0 /\ y*y+x*x=-1:=by
 subst z;constructor
 ·clear o; grind (splits:=0) -lia -linarith
 ·grind (splits:=0) -lia -linarith
theorem tq2 {x y:Fin q} (a:x=0) (b:y=-1):x*y+x*y=0 /\ y*y+x*x=1:=by
 subst a b;constructor <;> grind (splits:=0) -lia -linarith
theorem tq3 (h:(1:Fin q)=-1):(2:Fin q)=0:=by grind (splits:=0) -lia -linarith
end
theorem gT4:(CP.nsm 4 gT).1.1=0 /\ (CP.nsm 4 gT).1.2=-1:=by
 have e:CP.nsm 4 gT=CP.add (CP.nsm 2 gT) (CP.nsm 2 gT):=by rw [<-CP.nsm_add]
 obtain ⟨h1,h2⟩:=XP (CP.nsm 2 gT) aH3;rw [e,h1,h2];exact tq1 aH2 (P4 (CP.nsm 2 gT))
theorem bA0:CP.nsm 4 gT ≠ CP.zero:=λ h=>by
 have e:=gT4.2;rw [h] at e;exact CP.h2 (tq3 e)
theorem gT8:CP.nsm 8 gT=CP.zero:=by
 have e:CP.nsm 8 gT=CP.add (CP.nsm 4 gT) (CP.nsm 4 gT):=by rw [<-CP.nsm_add]
 obtain ⟨a,b⟩:=gT4;obtain ⟨h1,h2⟩:=XP (CP.nsm 4 gT) (t:=CP.nsm 4 gT) (.inl a);have h:=tq2 a b;rw [e];exact oJ (qN (h1.trans h.1) (h2.trans h.2))
abbrev t8n:Nat:=28684908821141429758912547916212233914183938327803420948194326298794999701186
theorem aQb:t8n ^ hQN%aK=aK - 1:=by
 rw [<-N6 t8n aK 256 hQN (by decide +kernel)];decide +kernel
theorem bA1:¬ Ev gT:=by
 rintro ⟨w,hw⟩;have e:fn t8n=-(1+CP.d*(gT.1.2*gT.1.2)):=by
  have h:fn (t8n+(1+A1*(t8y*t8y)))=0:=jA.2 (by decide +kernel);rw [fQ,fQ,bI,bI,jK] at h;show fn t8n=-(1+fn A1*(fn t8y*fn t8y));generalize fn t8n=a at *;generalize 1+fn A1*(fn t8y*fn t8y)=b at *;clear hw;grind (splits:=0) -lia -linarith
 rw [<-e,<-nK w,<-bI] at hw;have h1:fn (w.val*w.val)=fn (t8n*(1*1)):=hw.trans (dW fn (gY _).symm);have h2:1%aK=0:=bBd (p:=aK) (h:=hQN) (d:=t8n) (a:=w.val) (b:=1) prP (by decide) (by decide) aQb (nT.1 h1);revert h2;decide
def N4 (g:CP.G):Nat:=2*g.1.1.val+g.1.2.val%2
theorem aH4 (g:CP.G):N4 g < 2*aK:=by
 have h:=Tr g.1.1;unfold N4;have:g.1.2.val%2 < 2:=bH _ (by omega);omega
section
variable {q:Nat} [NeZero q]
theorem cn1 {d x y y':Fin q} (o:y*y - x*x=1+d*x*x*y*y) (o':y'*y' - x*x=1+d*x*x*y'*y'):y*y*(1 - d*(x*x))=y'*y'*(1 - d*(x*x)):=by grind (splits:=0) -lia -linarith
theorem cn2 {d x:Fin q} (h:1 - d*(x*x)=0):1*1=d*(x*x):=by grind (splits:=0) -lia -linarith
theorem cn3 {d x:Fin q} (h:1 - d*(x*x)=0) (h0:x=0):(1:Fin q)=0:=by
 subst h0;grind (splits:=0) -lia -linarith
end
theorem aEf {g h:CP.G} (e:N4 g=N4 h):g=h:=by
 unfold N4 at e;have b1:g.1.2.val%2 < 2:=bH _ (by omega);have b2:h.1.2.val%2 < 2:=bH _ (by omega);have e1:g.1.1=h.1.1:=Fin.ext (by omega);have e2:g.1.2.val%2=h.1.2.val%2:=by omega
 have o1:=P4 g;have o2:=P4 h;rw [e1] at o1;have z:1 - CP.d*(h.1.1*h.1.1) ≠ 0:=λ k=>CP.h1 (cn3 k (CP.nsq _ _ (cn2 k)));have s:=CP.can z (cn1 o1 o2);refine oJ (qN e1 ?_);rcases Kj s with k | k
 ·exact k
 ·by_cases h0:h.1.2=0
  ·rw [k,h0,Cl]
  ·exfalso;have n:=sS h0;have n2:i6 g.1.2=i6 h.1.2:=by unfold i6; rw [e2]
   rw [k,n] at n2;cases hh:i6 h.1.2 <;> rw [hh] at n2 <;> cases n2
theorem aEg:0 < LN:=by decide
def uI (i j:Nat):CP.G:=CP.add (CP.nsm i gB) (CP.nsm j gT)
theorem Tp (i j k l:Nat):CP.add (uI i j) (uI k l)=uI (i+k) (j+l):=by
 unfold uI;rw [CP.nsm_add,CP.nsm_add,CP.add_assoc,<-CP.add_assoc (CP.nsm j gT),CP.add_comm (CP.nsm j gT),CP.add_assoc,<-CP.add_assoc]
theorem aEh (i j:Nat):uI (LN*i) (8*j)=CP.zero:=by
 unfold uI;rw [bV LN,bV 8,CP.nsm_mul,CP.nsm_mul,Mb,gT8,CP.nsm_zero,CP.nsm_zero,CP.zero_add]
theorem aH5 (i j:Nat):CP.neg (uI i j)=uI ((LN - 1)*i) (7*j):=by
 refine (CP.neg_eq ?_).symm;have e:(LN - 1)*i+i=LN*i:=by
  have:LN=(LN - 1)+1:=by decide
  rw (config:={ occs:=.pos [2] }) [this];rw [fX,mZ]
 rw [Tp,e,show 7*j+j=8*j by omega,aEh]
abbrev u8N:Nat:=2713877091499598330239944961141122840321418634767465352250731601857045344121
theorem bA2:u8N*8%LN=1:=by decide
theorem aH6 (i j:Nat):CP.nsm 8 (uI i j)=CP.nsm (8*i) gB:=by
 unfold uI;rw [CP.nsm_sum,CP.nsm_comm 8 j,gT8,CP.nsm_zero,CP.add_zero,CP.nsm_mul]
theorem aWx {i:Nat} (h:i < LN):u8N*(8*i%LN)%LN=i:=by
 rw [lI,mY,<-lI,<-dU,lI,bA2,mZ,mY,aY h]
theorem bGH {m:Nat} (h0:0 < m) (h8:m < 8):CP.nsm m gT ≠ CP.zero:=λ e=>by
 have key:∀ u:Nat,u*m%8=4->False:=λ u hu=>by
  have h:=CP.nsm_mod gT8 (u*m);rw [hu,CP.nsm_mul,e,CP.nsm_zero] at h;exact bA0 h
 have:m=1 ∨ m=2 ∨ m=3 ∨ m=4 ∨ m=5 ∨ m=6 ∨ m=7:=by omega
 rcases this with rfl | rfl | rfl | rfl | rfl | rfl | rfl
 ·exact key 4 rfl
 ·exact key 2 rfl
 ·exact key 4 rfl
 ·exact key 1 rfl
 ·exact key 4 rfl
 ·exact key 2 rfl
 ·exact key 4 rfl
theorem aWy {a b:Nat} (h:a < b) (hb:b < 8):CP.nsm a gT ≠ CP.nsm b gT:=λ e=>by
 have h1:CP.nsm b gT=CP.add (CP.nsm (b - a) gT) (CP.nsm a gT):=by rw [<-CP.nsm_add,DR (As h)]
 rw [<-e] at h1;have h2:CP.add (CP.nsm (b - a) gT) (CP.nsm a gT)=CP.add CP.zero (CP.nsm a gT):=by rw [<-h1,CP.zero_add]
 exact bGH (by omega) (by omega) (CP.add_can h2)
theorem aH7 {i j k l:Nat} (hi:i < LN) (hk:k < LN) (hj:j < 8) (hl:l < 8) (e:uI i j=uI k l):i=k /\ j=l:=by
 have h8:CP.nsm (8*i) gB=CP.nsm (8*k) gB:=by rw [<-aH6 i j,<-aH6 k l,e]
 rw [<-CP.nsm_mod Mb (8*i),<-CP.nsm_mod Mb (8*k)] at h8;have h1:=(aOK (bH _ aEg) (bH _ aEg)).1 h8;have ik:i=k:=by rw [<-aWx hi,h1,aWx hk]
 subst ik;refine ⟨rfl,?_⟩;unfold uI at e;rw [CP.add_comm,CP.add_comm (CP.nsm i gB)] at e;have e:=CP.add_can e;rcases KL j l with h | h | h
 ·exact absurd e (aWy h hl)
 ·exact h
 ·exact absurd e.symm (aWy h hj)
theorem XT {x y:Nat} (hx:x < 16) (hy:y < 16) (a:x / 8 ≠ 0) (b:y / 8 ≠ 0):x / 8=y / 8:=by omega
theorem aH8 (P:CP.G):∃ i j,P=uI i j:=by
 refine Classical.byContradiction λ hN=>?_;have hN:∀ i j,P ≠ uI i j:=λ i j e=>hN ⟨i,j,e⟩;have pts:∀ i j k l,CP.add CP.zero (uI i j) ≠ CP.add P (uI k l):=λ i j k l e=>by
  rw [CP.zero_add] at e;have h:P=CP.add (uI i j) (CP.neg (uI k l)):=by rw [e,CP.add_assoc,CP.add_neg,CP.add_zero]
  rw [aH5,Tp] at h;exact hN _ _ h
 have key:=bAZ (16*LN) (2*aK) (λ k=>N4 (CP.add (bif Nat.beq (k / LN / 8) 0 then CP.zero else P) (uI (k%LN) (k / LN%8)))) (λ k _=>aH4 _) (λ k l hk hl e=>by
  have e:=aEf e;have k1:k%LN < LN:=bH _ aEg;have l1:l%LN < LN:=bH _ aEg;have k2:k / LN%8 < 8:=bH _ (by omega);have l2:l / LN%8 < 8:=bH _ (by omega);have kd:=eI k LN;have ld:=eI l LN;have k3:k / LN < 16:=Nat.div_lt_of_lt_mul (by rw [bV]; exact hk);have l3:l / LN < 16:=Nat.div_lt_of_lt_mul (by rw [bV]; exact hl);have can:∀ Z:CP.G,CP.add Z (uI (k%LN) (k / LN%8))=CP.add Z (uI (l%LN) (l / LN%8))->k%LN=l%LN /\ k / LN%8=l / LN%8:=λ Z h=>by
   rw [CP.add_comm,CP.add_comm Z] at h;exact aH7 k1 l1 k2 l2 (CP.add_can h)
  have lQ:k / LN / 8=l / LN / 8->k%LN=l%LN->k / LN%8=l / LN%8->k=l:=λ a b c=>by
   have:k / LN=l / LN:=by omega
   rw [<-kd,<-ld,this,b]
  by_cases c1:k / LN / 8=0 <;> by_cases c2:l / LN / 8=0
  ·have b1:Nat.beq (k / LN / 8) 0=true:=by rw [c1]; rfl
   have b2:Nat.beq (l / LN / 8) 0=true:=by rw [c2]; rfl
   rw [b1,b2,aB] at e;obtain ⟨a,b⟩:=can _ e;exact lQ (by omega) a b
  ·have b1:Nat.beq (k / LN / 8) 0=true:=by rw [c1]; rfl
   have b2:Nat.beq (l / LN / 8) 0=false:=by
    cases hb:Nat.beq (l / LN / 8) 0
    ·rfl
    ·exact absurd (aT hb) c2
   rw [b1,b2,aB,aE] at e;exact absurd e (pts _ _ _ _)
  ·have b2:Nat.beq (l / LN / 8) 0=true:=by rw [c2]; rfl
   have b1:Nat.beq (k / LN / 8) 0=false:=by
    cases hb:Nat.beq (k / LN / 8) 0
    ·rfl
    ·exact absurd (aT hb) c1
   rw [b1,b2,aB,aE] at e;exact absurd e.symm (pts _ _ _ _)
  ·have b1:Nat.beq (k / LN / 8) 0=false:=by
    cases hb:Nat.beq (k / LN / 8) 0
    ·rfl
    ·exact absurd (aT hb) c1
   have b2:Nat.beq (l / LN / 8) 0=false:=by
    cases hb:Nat.beq (l / LN / 8) 0
    ·rfl
    ·exact absurd (aT hb) c2
   rw [b1,b2,aE] at e;obtain ⟨a,b⟩:=can _ e;exact lQ (XT k3 l3 c1 c2) a b)
 revert key;decide
abbrev bwN:Nat:=782733849386679917404316975711710377819347060143752793023731897284185609433
theorem aWz:Ev gB:=by
 refine ⟨fn bwN,?_⟩;have h:fn (bwN*bwN+(1+A1*(byN*byN)))=0:=jA.2 (by decide +kernel);rw [fQ,bI,fQ,bI,bI,jK] at h;show fn bwN*fn bwN=-(1+fn A1*(fn byN*fn byN));generalize fn bwN*fn bwN=a at *;generalize 1+fn A1*(fn byN*fn byN)=b at *;grind (splits:=0) -lia -linarith
theorem aAB (q:Nat):e4 (CP.nsm (q*2) gT):=by rw [CP.nsm_mul]; exact P2 aH3 q
theorem bA4 {P:CP.G} (hP:Ev P):e4 (CP.nsm LN P):=by
 obtain ⟨i,j,e⟩:=aH8 P;have hb:Ev (CP.nsm i gB):=P5 aWz i;have hj:Ev (CP.nsm j gT):=by
  have h:=yJ hP (aH0 hb);have e2:CP.add P (CP.neg (CP.nsm i gB))=CP.nsm j gT:=by
   rw [e];unfold uI;rw [CP.add_comm (CP.nsm i gB),CP.add_assoc,CP.add_neg,CP.add_zero]
  rwa [e2] at h
 have hq:∃ q,j=q*2:=by
  rcases TG j with h | h
  ·exact ⟨j / 2,by omega⟩
  ·exfalso;have ej:j=j / 2*2+1:=by omega
   rw [ej,CP.nsm_add,CP.nsm_one] at hj;have h:=yJ hj (aH0 (Kk (aAB (j / 2))));have e2:CP.add (CP.add (CP.nsm (j / 2*2) gT) gT) (CP.neg (CP.nsm (j / 2*2) gT))=gT:=by
    rw [CP.add_comm (CP.nsm (j / 2*2) gT),CP.add_assoc,CP.add_neg,CP.add_zero]
   rw [e2] at h;exact bA1 h
 obtain ⟨q,rfl⟩:=hq;rw [e];unfold uI;rw [CP.nsm_sum,CP.nsm_comm LN i,Mb,CP.nsm_zero,CP.zero_add];exact P2 (aAB q) LN
theorem aAC {P:CP.G} (hP:Ev P) (n:Nat):Ds (CP.nsm n P) (CP.nsm (n%LN) P):=by
 have e:CP.nsm n P=CP.add (CP.nsm (n%LN) P) (CP.nsm (n / LN) (CP.nsm LN P)):=by
  rw [<-CP.nsm_mul,<-CP.nsm_add,bV,KI,eI]
 exact BS (HT (P2 (bA4 hP) _) e)
theorem aAD {P:CP.G} (hP:Ev P) {n:Nat} (h0:0 < n) (h:n < LN) (hz:e4 (CP.nsm n P)):e4 P:=by
 have hu:=aGS h0 h;generalize n ^ (LN - 2)=u at hu;have s:=aAC hP (u*n);rw [bV u n,hu,CP.nsm_one,bV n u,CP.nsm_mul] at s;obtain ⟨t,ht,e⟩:=pM s;rw [e];exact P1 (P2 hz u) ht
open Go Go.Proofs
set_option linter.unusedSimpArgs false
def pU1 (s:Fe):Fe:=cQ (fe 1) (aN s s)
def P6 (s:Fe):Fe:=gS (fe 1) (aN s s)
def pVF (s:Fe):Fe:=cQ (cQ f0 (aN dF (aN (pU1 s) (pU1 s)))) (aN (P6 s) (P6 s))
def XU (s:Fe):Fe × Bool:=mC (fe 1) (aN (pVF s) (aN (P6 s) (P6 s)))
def pXF (s:Fe):Fe:=wX (aN (gS s s) (aN (XU s).1 (P6 s)))
def JR (s:Fe):Fe:=aN (pU1 s) (aN (aN (XU s).1 (aN (XU s).1 (P6 s))) (pVF s))
def XV (s:Fe):Fe:=aN (pXF s) (JR s)
def FW (s:Fe):Bool:=!qS s && ((XU s).2 && (!qS (XV s) && !FK (JR s)))
def ptP (s:Fe):Pt:=⟨pXF s,JR s,fe 1,XV s⟩
set_option linter.unusedSectionVars false
theorem ev6 {q:Nat} [NeZero q] (d:Fin q):-1 - d=-(1+d*(1*1)):=by grind (splits:=0) -lia -linarith
theorem aAF (t:Fin QP):Ev (gH t):=by
 obtain ⟨n0,W0,_⟩:=BJ t;obtain ⟨hc,hz⟩:=HE t;have hy:(gH t).1.2*(1+Cn t*Cn t)=1 - Cn t*Cn t:=(gx1 (W:=0) (IP _ W0)).1;have hk:=aGI;by_cases v0:TP t=0
 ·refine ⟨eK,?_⟩;have s0:=hz v0;rw [s0] at hy;have e1:(1:Fin QP)+0*0=1:=by rw [gV,Fin.add_zero]
  have e2:(1:Fin QP) - 0*0=1:=by rw [gV]; rfl
  rw [e1,e2,iX] at hy;rw [hy,aAz];exact ev6 CP.d
 ·have m:=CP.half_main (r:=hrQ t) (u:=huQ t) (c:=hcQ t) (s:=Cn t) (n:=hnQ t) (v:=TP t) rfl rfl rfl hc v0;exact ⟨_,hm6 hk hy m (IP _ (CP.mul_ne W0 v0))⟩
theorem bA6 {p q:Pt} {g h:CP.G} (hp:PT p g) (hq:PT q h):pL p q=true ↔ Ds g h:=by
 rw [FU];unfold pL;rw [M8,Eh,Eh,bG,bG,bG,bG,hp.x,hp.y,hq.x,hq.y];have z:=CP.mul_ne hp.z hq.z;have r:∀ a b c e:Fin QP,a*ph p.z*(b*ph q.z)=c*ph p.z*(e*ph q.z) ↔ a*b=c*e:=λ a b c e=>by
  have e1:a*ph p.z*(b*ph q.z)=a*b*(ph p.z*ph q.z):=by grind (splits:=0) -lia -linarith
  have e2:c*ph p.z*(e*ph q.z)=c*e*(ph p.z*ph q.z):=by grind (splits:=0) -lia -linarith
  rw [e1,e2];exact ⟨λ h=>CP.can z h,λ h=>by rw [h]⟩
 rw [r,r]
theorem aQc {g h:CP.G} (hg:Ev g) (hh:Ev h) (e:ED g=ED h):Ds g h:=by
 obtain ⟨g',s1,c1,t1⟩:=FV hg;obtain ⟨h',s2,c2,t2⟩:=FV hh;have E1:Ev g':=by
  obtain ⟨t,ht,rfl⟩:=pM s1;exact yJ hg (Kk ht)
 have E2:Ev h':=by
  obtain ⟨t,ht,rfl⟩:=pM s2;exact yJ hh (Kk ht)
 rw [<-e] at t2;obtain ⟨_,x1,y1⟩:=XS c1 t1 E1;obtain ⟨_,x2,y2⟩:=XS c2 t2 E2;have:g'=h':=oJ (qN (x1.symm.trans x2) (y1.symm.trans y2));subst this;exact rE s1 (BS s2)
theorem bGI {p q:Pt} {g h:CP.G} (hp:PT p g) (hq:PT q h) (hg:Ev g) (hh:Ev h):lo 32 (fv (cW p)%aK)=lo 32 (fv (cW q)%aK) ↔ Ds g h:=by
 constructor
 ·intro e;have e2:vB (lo 32 (fv (cW p)%aK))=vB (lo 32 (fv (cW q)%aK)):=by rw [e]
  rw [SW,SW] at e2;refine aQc hg hh ?_;rw [<-yV hp,<-yV hq];exact nT.2 e2
 ·intro s;have e:=aP9 hg s;rw [<-yV hp,<-yV hq] at e;have:=nT.1 e;rw [this]
section
variable {s:Fe} (hs:cS s)
include hs
theorem XW:cS (pU1 s):=cR (cA 1)
theorem BT:cS (P6 s):=cT (cA 1) (aL hs hs)
theorem XX:cS (pVF s):=cR (cR qW)
theorem aIa:cS (aN (pVF s) (aN (P6 s) (P6 s))):=aL (XX hs) (aL (BT hs) (BT hs))
theorem Tq:cS (XU s).1:=JO (cA 1) (aIa hs)
theorem Kl:cS (pXF s):=JP (aL (cT hs hs) (aL (Tq hs) (BT hs)))
theorem Km:cS (JR s):=aL (XW hs) (aL (aL (Tq hs) (aL (Tq hs) (BT hs))) (XX hs))
theorem XY:cS (XV s):=aL (Kl hs) (Km hs)
theorem aIb:ph (pU1 s)=1 - ph s*ph s:=by
 unfold pU1;rw [jL (aL hs hs),bG,BB]
theorem P7:ph (P6 s)=1+ph s*ph s:=by
 unfold P6;rw [mM,bG,BB]
theorem aIc:ph (pVF s)=XQ (ph s):=by
 have k1:=XW hs;unfold pVF XQ;rw [jL (aL (BT hs) (BT hs)),jL (aL qY (aL k1 k1)),bG,bG,bG,aIb hs,P7 hs,Iw,bEJ,mG]
theorem Kn:ph (XU s).1=(NR (ph s)).1 /\ (XU s).2=(NR (ph s)).2:=by
 have h:=KQ (cA 1) (aIa hs);rw [BB,bG,bG,aIc hs,P7 hs] at h;exact h
theorem XZ:ph (pXF s)=Wu (ph s):=by
 have h:=aL (cT hs hs) (aL (Tq hs) (BT hs));unfold pXF Wu;rw [Pb h,bG,mM,bG,(Kn hs).1,P7 hs]
theorem Ko:ph (JR s)=XR (ph s):=by
 unfold JR XR;rw [bG,bG,bG,bG,(Kn hs).1,P7 hs,aIb hs,aIc hs]
end
theorem aId {p:Pt} {g:CP.G} (hp:PT p g) (hg:Ev g):∃ a h,a=lo 32 (fv (cW p)%aK) /\ dP a=true /\ Nat.blt (vB a) aK=true /\ FW (fe (vB a))=true /\ Ds g h /\ Ev h /\ PT (ptP (fe (vB a))) h:=by
 obtain ⟨h,sg,hb,hx,hy,ht,h0,he⟩:=aQa hg;have E:Ev h:=by
  obtain ⟨t,k4,rfl⟩:=pM sg;exact yJ hg (Kk k4)
 have lt:fv (cW p)%aK < aK:=mP _;refine ⟨_,h,rfl,Gt _,by rw [SW]; exact cY.mpr lt,?_⟩;rw [SW];have hs:cS (fe (fv (cW p)%aK)):=cA _;have es:ph (fe (fv (cW p)%aK))=ED g:=by rw [xW lt,bR]; exact yV hp
 generalize fe (fv (cW p)%aK)=s at *;rw [<-es] at hb hx hy he;have px:=XZ hs;have py:=Ko hs;have pI:=(Kn hs).2;rw [hx] at px;rw [hy] at py;rw [hb] at pI;have pt:ph (XV s)=h.1.1*h.1.2:=by
  unfold XV;rw [bG,px,py]
 have z:FK (JR s)=false:=by
  rw [M6];intro e;refine h0 (py.symm.trans ?_);have e2:fv (JR s)%aK=0:=aT e;exact jA.2 e2
 refine ⟨?_,sg,E,?_⟩
 ·unfold FW;rw [HD,he,pI,HD,pt,ht,z]; rfl
 ·have e1:ph (fe 1)=1:=BB;refine ⟨⟨Kl hs,Km hs,cA 1,XY hs⟩,?_,?_,?_,?_⟩
  ·show ph (fe 1) ≠ 0;rw [e1]; exact CP.h1
  ·show ph (pXF s)=_*ph (fe 1);rw [e1,px,iX]
  ·show ph (JR s)=_*ph (fe 1);rw [e1,py,iX]
  ·show ph (XV s)=_*ph (fe 1);rw [e1,pt,iX]
end Go.Eng
