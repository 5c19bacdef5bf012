import Derived.Test.YteipjabipehbpaaGreatZT3
namespace Go.Eng
set_option linter.unusedVariables false
def e4 (g:CP.G):Prop:=g.1.1=0 ∨ g.1.2=0
section
variable {q:Nat} [NeZero q]
theorem ev1 {d x y u v:Fin q} (h:u=0 ∨ v=0):1+d*x*y*u*v=1 /\ 1 - d*x*y*u*v=1:=by
 rcases h with rfl | rfl <;> constructor <;> grind (splits:=0) -lia -linarith
theorem ev2 {x y u v:Fin q} (h:x=0 ∨ y=0) (k:u=0 ∨ v=0):x*v+u*y=0 ∨ y*v+x*u=0:=by
 rcases h with rfl | rfl <;> rcases k with rfl | rfl
 ·left; grind (splits:=0) -lia -linarith
 ·right; grind (splits:=0) -lia -linarith
 ·right; grind (splits:=0) -lia -linarith
 ·left; grind (splits:=0) -lia -linarith
theorem ev4 {d x y:Fin q} (h:x=0) (o:y*y - x*x=1+d*x*x*y*y):y*y=1*1:=by
 subst h
 grind (splits:=0) -lia -linarith
theorem ev5 {d x y i:Fin q} (hi:i*i=-1) (h:y=0) (o:y*y - x*x=1+d*x*x*y*y):x*x=i*i:=by
 subst h
 grind (splits:=0) -lia -linarith
end
theorem add_x (g h:CP.G):(CP.add g h).1.1*CP.dp g.1 h.1=g.1.1*h.1.2+h.1.1*g.1.2:=CP.ad_x g.2 h.2
theorem add_y (g h:CP.G):(CP.add g h).1.2*CP.dm g.1 h.1=g.1.2*h.1.2+g.1.1*h.1.1:=CP.ad_y g.2 h.2
theorem e4_add_iff (g h:CP.G):e4 (CP.add g h) ↔ (g.1.1*h.1.2+h.1.1*g.1.2=0 ∨ g.1.2*h.1.2+g.1.1*h.1.1=0):=by
 have h1:=add_x g h
 have h2:=add_y g h
 have p:=CP.dp_ne g.2 h.2
 have m:=CP.dm_ne g.2 h.2
 constructor
 ·intro k
  rcases k with k | k
  ·left; rw [<-h1,k,Fin.zero_mul]
  ·right; rw [<-h2,k,Fin.zero_mul]
 ·intro k
  rcases k with k | k
  ·left; exact (CP.noz _ _ (h1.trans k)).resolve_right p
  ·right; exact (CP.noz _ _ (h2.trans k)).resolve_right m
theorem e4_zero:e4 CP.zero:=.inl rfl
theorem e4_neg {g:CP.G} (h:e4 g):e4 (CP.neg g):=by
 rcases h with h | h
 ·left
  show -g.1.1=0
  rw [h]; grind (splits:=0) -lia -linarith
 ·right; exact h
theorem e4_add {g h:CP.G} (hg:e4 g) (hh:e4 h):e4 (CP.add g h):=(e4_add_iff g h).2 (ev2 hg hh)
theorem e4_nsm {g:CP.G} (h:e4 g) (n:Nat):e4 (CP.nsm n g):=by
 induction n with
 | zero=>exact e4_zero
 | succ n ih=>rw [CP.nsm_add,CP.nsm_one]; exact e4_add ih h
theorem add_e4 (h:CP.G) {t:CP.G} (ht:e4 t):(CP.add h t).1.1=h.1.1*t.1.2+t.1.1*h.1.2 /\ (CP.add h t).1.2=h.1.2*t.1.2+h.1.1*t.1.1:=by
 have e:=ev1 (d:=CP.d) (x:=h.1.1) (y:=h.1.2) ht
 have e1:CP.dp h.1 t.1=1:=e.1
 have e2:CP.dm h.1 t.1=1:=e.2
 have h1:=add_x h t
 have h2:=add_y h t
 rw [e1,Fin.mul_one] at h1
 rw [e2,Fin.mul_one] at h2
 exact ⟨h1,h2⟩
theorem sq_pm1 {a b:Fin QP} (h:a*a=b*b):a=b ∨ a=-b:=by
 have:(a - b)*(a+b)=0:=by grind (splits:=0) -lia -linarith
 rcases CP.noz _ _ this with h | h
 ·left; grind (splits:=0) -lia -linarith
 ·right; grind (splits:=0) -lia -linarith
theorem on_G (g:CP.G):g.1.2*g.1.2 - g.1.1*g.1.1=1+CP.d*g.1.1*g.1.1*g.1.2*g.1.2:=g.2
theorem e4_are {t:CP.G} (ht:e4 t):(t.1.1=0 /\ (t.1.2=1 ∨ t.1.2=-1)) ∨ (t.1.2=0 /\ (t.1.1=CP.i ∨ t.1.1=-CP.i)):=by
 have o:=on_G t
 have hi:=CP.ii
 rcases ht with h | h
 ·left
  exact ⟨h,sq_pm1 (ev4 h o)⟩
 ·right
  exact ⟨h,sq_pm1 (ev5 hi h o)⟩
theorem coset {h t:CP.G} (ht:e4 t):((CP.add h t).1.1=h.1.1 /\ (CP.add h t).1.2=h.1.2) ∨ ((CP.add h t).1.1=-h.1.1 /\ (CP.add h t).1.2=-h.1.2) ∨
  ((CP.add h t).1.1=CP.i*h.1.2 /\ (CP.add h t).1.2=CP.i*h.1.1) ∨ ((CP.add h t).1.1=-(CP.i*h.1.2) /\ (CP.add h t).1.2=-(CP.i*h.1.1)):=by
 obtain ⟨e1,e2⟩:=add_e4 h ht
 rcases e4_are ht with ⟨a,b | b⟩ | ⟨a,b | b⟩
 ·rw [a,b] at e1 e2
  left; constructor
  ·rw [e1]; grind (splits:=0) -lia -linarith
  ·rw [e2]; grind (splits:=0) -lia -linarith
 ·rw [a,b] at e1 e2
  right; left; constructor
  ·rw [e1]; grind (splits:=0) -lia -linarith
  ·rw [e2]; grind (splits:=0) -lia -linarith
 ·rw [a,b] at e1 e2
  right; right; left; constructor
  ·rw [e1]; grind (splits:=0) -lia -linarith
  ·rw [e2]; grind (splits:=0) -lia -linarith
 ·rw [a,b] at e1 e2
  right; right; right; constructor
  ·rw [e1]; grind (splits:=0) -lia -linarith
  ·rw [e2]; grind (splits:=0) -lia -linarith
def eK:Fin QP:=fn 25063068953384623474111414158702152701244531502492656460079210482610430750235
theorem eK_sq:eK*eK=-1 - CP.d:=by
 have:fn (25063068953384623474111414158702152701244531502492656460079210482610430750235*25063068953384623474111414158702152701244531502492656460079210482610430750235+1+dQN)=0:=fn_eq0.2 (by decide +kernel)
 rw [fn_add,fn_add,fn_mul,fn_one] at this
 have e:eK*eK+1+CP.d=0:=this
 generalize CP.d=d at *
 generalize eK=k at *
 grind (splits:=0) -lia -linarith
def Ev (g:CP.G):Prop:=∃ w:Fin QP,w*w=-(1+CP.d*(g.1.2*g.1.2))
theorem f_ne (g:CP.G):1+CP.d*(g.1.2*g.1.2) ≠ 0:=by
 intro h
 have o:=on_G g
 have h1:g.1.2*g.1.2=1:=by
  have:g.1.2*g.1.2 - 1=g.1.1*g.1.1*(1+CP.d*(g.1.2*g.1.2)):=by clear h; grind (splits:=0) -lia -linarith
  rw [h,Fin.mul_zero] at this
  clear o h
  grind (splits:=0) -lia -linarith
 rw [h1] at h
 exact CP.dm1 (by rw [<-h,Fin.mul_one])
theorem Ev_ne {g:CP.G} {w:Fin QP} (h:w*w=-(1+CP.d*(g.1.2*g.1.2))):w ≠ 0:=fun h0=>f_ne g (by
 rw [h0] at h
 generalize CP.d*(g.1.2*g.1.2)=u at *
 grind (splits:=0) -lia -linarith)
section
variable {q:Nat} [NeZero q]
theorem ev3 {d k x1 y1 x2 y2 y3 m f1 f2 f3 A:Fin q} (hk:k*k=-1 - d) (o1:y1*y1 - x1*x1=1+d*x1*x1*y1*y1) (o2:y2*y2 - x2*x2=1+d*x2*x2*y2*y2)
  (hm:m=1 - d*x1*y1*x2*y2) (h3:y3*m=y1*y2+x1*x2) (e1:f1=-(1+d*(y1*y1))) (e2:f2=-(1+d*(y2*y2))) (e3:f3=-(1+d*(y3*y3))) (eA:A=1+d*(y1*y1)*(y2*y2)) :
  f3*(m*m)*(f1*f2)=k*A*(k*A):=by
 have a1:f1*(x1*x1)=1 - y1*y1:=by rw [e1]; clear hk o2 hm h3 e1 e2 e3 eA; grind (splits:=0) -lia -linarith
 have a2:f2*(x2*x2)=1 - y2*y2:=by rw [e2]; clear hk o1 hm h3 e1 e2 e3 eA a1; grind (splits:=0) -lia -linarith
 have a3:f3*(m*m)=-(m*m+d*((y3*m)*(y3*m))):=by rw [e3]; clear hk o1 o2 hm h3 e1 e2 e3 eA a1 a2; grind (splits:=0) -lia -linarith
 have a4:m*m+d*((y1*y2+x1*x2)*(y1*y2+x1*x2))=A*(1+d*((x1*x1)*(x2*x2))):=by rw [hm,eA]; clear hk o1 o2 hm h3 e1 e2 e3 eA a1 a2 a3; grind (splits:=0) -lia -linarith
 have a5:(1+d*((x1*x1)*(x2*x2)))*(f1*f2)=f1*f2+d*((f1*(x1*x1))*(f2*(x2*x2))):=by clear hk o1 o2 hm h3 e1 e2 e3 eA a1 a2 a3 a4; grind (splits:=0) -lia -linarith
 rw [a1,a2] at a5
 have a6:f1*f2+d*((1 - y1*y1)*(1 - y2*y2))=(1+d)*A:=by rw [e1,e2,eA]; clear hk o1 o2 hm h3 e1 e2 e3 eA a1 a2 a3 a4 a5; grind (splits:=0) -lia -linarith
 rw [a3,h3,a4]
 have a7:-(A*(1+d*((x1*x1)*(x2*x2))))*(f1*f2)=-(A*((1+d*((x1*x1)*(x2*x2)))*(f1*f2))):=by clear hk o1 o2 hm h3 e1 e2 e3 eA a1 a2 a3 a4 a5 a6; grind (splits:=0) -lia -linarith
 rw [a7,a5,a6]
 have a8:k*A*(k*A)=k*k*(A*A):=by clear hk o1 o2 hm h3 e1 e2 e3 eA a1 a2 a3 a4 a5 a6 a7; grind (splits:=0) -lia -linarith
 rw [a8,hk]
 clear hk o1 o2 hm h3 e1 e2 e3 eA a1 a2 a3 a4 a5 a6 a7 a8
 grind (splits:=0) -lia -linarith
end
theorem Ev_prod {g h:CP.G} {w:Fin QP} (hw:w*w=(1+CP.d*(g.1.2*g.1.2))*(1+CP.d*(h.1.2*h.1.2))) (w0:w ≠ 0):Ev (CP.add g h):=by
 have m0:=CP.dm_ne g.2 h.2
 have key:=ev3 (y3:=(CP.add g h).1.2) eK_sq (on_G g) (on_G h) (m:=CP.dm g.1 h.1) rfl (add_y g h) rfl rfl rfl rfl
 have z:=CP.mul_ne m0 w0
 refine ⟨eK*(1+CP.d*(g.1.2*g.1.2)*(h.1.2*h.1.2))*CP.inv (CP.dm g.1 h.1*w),?_⟩
 have hv:=CP.inv_mul _ z
 refine CP.can (CP.mul_ne z z) ?_
 generalize (CP.add g h).1.2=y3 at *
 generalize CP.dm g.1 h.1=m at *
 generalize eK*(1+CP.d*(g.1.2*g.1.2)*(h.1.2*h.1.2))=kA at *
 generalize CP.inv (m*w)=j at *
 generalize 1+CP.d*(g.1.2*g.1.2)=f1 at *
 generalize 1+CP.d*(h.1.2*h.1.2)=f2 at *
 generalize -(1+CP.d*(y3*y3))=f3 at *
 have e1:kA*j*(kA*j)*(m*w*(m*w))=kA*kA*((m*w*j)*(m*w*j)):=by clear key hv hw; grind (splits:=0) -lia -linarith
 rw [e1,hv,<-key]
 have e2:f3*(m*w*(m*w))=f3*(m*m)*(w*w):=by clear key hv hw e1; grind (splits:=0) -lia -linarith
 rw [e2,hw]
 clear key hv hw e1 e2
 grind (splits:=0) -lia -linarith
theorem Ev_add {g h:CP.G} (hg:Ev g) (hh:Ev h):Ev (CP.add g h):=by
 obtain ⟨a,ha⟩:=hg
 obtain ⟨b,hb⟩:=hh
 refine Ev_prod (w:=a*b) ?_ (CP.mul_ne (Ev_ne ha) (Ev_ne hb))
 have:a*b*(a*b)=a*a*(b*b):=by clear ha hb; grind (splits:=0) -lia -linarith
 rw [this,ha,hb]
 clear this ha hb
 grind (splits:=0) -lia -linarith
theorem Ev_neg {g:CP.G} (h:Ev g):Ev (CP.neg g):=h
theorem Ev_zero:Ev CP.zero:=⟨eK,by
 rw [eK_sq]
 show -1 - CP.d=-(1+CP.d*(1*1))
 grind (splits:=0) -lia -linarith⟩
theorem Ev_nsm {g:CP.G} (h:Ev g) (n:Nat):Ev (CP.nsm n g):=by
 induction n with
 | zero=>exact Ev_zero
 | succ n ih=>rw [CP.nsm_add,CP.nsm_one]; exact Ev_add ih h
theorem Ev_e4 {t:CP.G} (ht:e4 t):Ev t:=by
 have hi:=CP.ii
 have hk:=eK_sq
 rcases e4_are ht with ⟨_,b | b⟩ | ⟨a,_⟩
 ·exact ⟨eK,by rw [b,hk]; grind (splits:=0) -lia -linarith⟩
 ·exact ⟨eK,by rw [b,hk]; grind (splits:=0) -lia -linarith⟩
 ·exact ⟨CP.i,by rw [a,hi]; grind (splits:=0) -lia -linarith⟩
def sim (g h:CP.G):Prop:=e4 (CP.add h (CP.neg g))
theorem sim_to {g h:CP.G} (k:sim g h):∃ t,e4 t /\ h=CP.add g t:=by
 refine ⟨_,k,?_⟩
 rw [CP.add_comm h,<-CP.add_assoc,CP.add_neg,CP.zero_add]
theorem sim_of {g h t:CP.G} (ht:e4 t) (e:h=CP.add g t):sim g h:=by
 subst e
 show e4 (CP.add (CP.add g t) (CP.neg g))
 rw [CP.add_comm g t,CP.add_assoc,CP.add_neg,CP.add_zero]
 exact ht
theorem sim_refl (g:CP.G):sim g g:=sim_of e4_zero (CP.add_zero g).symm
theorem sim_symm {g h:CP.G} (k:sim g h):sim h g:=by
 obtain ⟨t,ht,e⟩:=sim_to k
 refine sim_of (e4_neg ht) ?_
 rw [e,CP.add_assoc,CP.add_neg,CP.add_zero]
theorem sim_trans {g h k:CP.G} (a:sim g h) (b:sim h k):sim g k:=by
 obtain ⟨t,ht,e⟩:=sim_to a
 obtain ⟨u,hu,e'⟩:=sim_to b
 refine sim_of (e4_add ht hu) ?_
 rw [e',e,CP.add_assoc]
theorem sim_add {g h g' h':CP.G} (a:sim g g') (b:sim h h'):sim (CP.add g h) (CP.add g' h'):=by
 obtain ⟨t,ht,rfl⟩:=sim_to a
 obtain ⟨u,hu,rfl⟩:=sim_to b
 refine sim_of (e4_add ht hu) ?_
 rw [CP.add_assoc,<-CP.add_assoc t h u,CP.add_comm t h,CP.add_assoc,CP.add_assoc]
theorem sim_iff (g h:CP.G):sim g h ↔ (g.1.1*h.1.2=g.1.2*h.1.1 ∨ g.1.2*h.1.2=g.1.1*h.1.1):=by
 unfold sim
 rw [e4_add_iff]
 show (h.1.1*g.1.2+-g.1.1*h.1.2=0 ∨ h.1.2*g.1.2+h.1.1*-g.1.1=0) ↔ _
 constructor
 ·intro k
  rcases k with k | k
  ·left; grind (splits:=0) -lia -linarith
  ·right; grind (splits:=0) -lia -linarith
 ·intro k
  rcases k with k | k
  ·left; grind (splits:=0) -lia -linarith
  ·right; grind (splits:=0) -lia -linarith
structure Canon (h:CP.G):Prop where
 x:negQ h.1.1=false
 t:negQ (h.1.1*h.1.2)=false
 z:h.1.1*h.1.2=0->h=CP.zero
structure Told (h:CP.G) (s:Fin QP):Prop where
 even:negQ s=false
 root:s*s*(1+h.1.2)=1 - h.1.2
theorem ec0 {q:Nat} [NeZero q] {y:Fin q} (e:1+y=0) (r:0=1 - y):(2:Fin q)=0:=by grind (splits:=0) -lia -linarith
theorem one_y {h:CP.G} {s:Fin QP} (k:Told h s):1+h.1.2 ≠ 0:=fun e=>by
 have r:=k.root
 rw [e,Fin.mul_zero] at r
 exact CP.h2 (ec0 e r)
theorem Told.uniq {h:CP.G} {s s':Fin QP} (k:Told h s) (k':Told h s'):s=s' :=
 even_pm k.even k'.even (sq_pm1 (CP.can (one_y k) (k.root.trans k'.root.symm)))
theorem negQ_i {x y:Fin QP} (hx:x*y ≠ 0) (h:negQ (x*y)=false):negQ (CP.i*y*(CP.i*x))=true:=by
 have hi:=CP.ii
 have e:CP.i*y*(CP.i*x)=-(x*y):=by
  have e1:CP.i*y*(CP.i*x)=CP.i*CP.i*(x*y):=by clear hx h hi; grind (splits:=0) -lia -linarith
  rw [e1,hi]; clear e1 hx h hi; grind (splits:=0) -lia -linarith
 rw [e,neg_negQ hx,h]; rfl
section
variable {q:Nat} [NeZero q]
theorem ec1 {x y:Fin q}:-x*-y=x*y /\ -x*-y=x*y:=by constructor <;> grind (splits:=0) -lia -linarith
theorem ec2 {i x y:Fin q}:-(i*y)*-(i*x)=i*y*(i*x):=by grind (splits:=0) -lia -linarith
theorem ec3 {i x y:Fin q} (h:x*y=0):i*y*(i*x)=0:=by
 have:i*y*(i*x)=i*i*(x*y):=by clear h; grind (splits:=0) -lia -linarith
 rw [this,h,Fin.mul_zero]
end
theorem Canon.uniq {h h':CP.G} (c:Canon h) (c':Canon h') (k:sim h h'):h'=h:=by
 obtain ⟨t,ht,rfl⟩:=sim_to k
 have cs:=coset (h:=h) ht
 by_cases h0:h.1.1*h.1.2=0
 ·have hz:=c.z h0
  have h1:(CP.add h t).1.1*(CP.add h t).1.2=0:=by
   rcases cs with ⟨a,b⟩ | ⟨a,b⟩ | ⟨a,b⟩ | ⟨a,b⟩ <;> rw [a,b]
   ·exact h0
   ·rw [ec1.1,h0]
   ·exact ec3 h0
   ·rw [ec2]; exact ec3 h0
  rw [c'.z h1,hz]
 ·have hx:h.1.1 ≠ 0:=fun e=>h0 (by rw [e,Fin.zero_mul])
  rcases cs with ⟨a,b⟩ | ⟨a,b⟩ | ⟨a,b⟩ | ⟨a,b⟩
  ·exact Subtype.ext (Prod.ext a b)
  ·have:=c'.x
   rw [a,neg_negQ hx,c.x] at this
   cases this
  ·have:=c'.t
   rw [a,b,negQ_i h0 c.t] at this
   cases this
  ·have:=c'.t
   rw [a,b,ec2,negQ_i h0 c.t] at this
   cases this
section
variable {q:Nat} [NeZero q]
theorem ed1 {d x y w:Fin q} (o:y*y - x*x=1+d*x*x*y*y) (hw:w*w=-(1+d*(y*y))):(1+y)*(1 - y)*(x*y*(x*y))=w*(x*x*y)*(w*(x*x*y)):=by
 have e1:w*(x*x*y)*(w*(x*x*y))=w*w*(x*x*y*(x*x*y)):=by clear o hw; grind (splits:=0) -lia -linarith
 have e2:(1+y)*(1 - y)=-(x*x)*(1+d*(y*y)):=by clear hw e1; grind (splits:=0) -lia -linarith
 rw [e1,hw,e2]
 clear e1 e2 o hw
 grind (splits:=0) -lia -linarith
theorem ed2 {v w r i:Fin q} (hv:v=w*w) (h:v*(r*r)=i*1):w*r*(w*r)=i*(1*1):=by
 subst hv
 rw [<-show w*w*(r*r)=w*r*(w*r) by clear h; grind (splits:=0) -lia -linarith,h]
 grind (splits:=0) -lia -linarith
theorem ed3 {r x y:Fin q} (h:(1+y)*(1 - y)*(x*y*(x*y))*(r*r)=1):r*(x*y)*(r*(x*y))*(1 - y*y)=1:=by
 refine Eq.trans ?_ h
 clear h; grind (splits:=0) -lia -linarith
theorem ed4 {d r x y c i:Fin q} (hi:i*i=-1) (o:y*y - x*x=1+d*x*x*y*y) (hc:c*c*(-1 - d)=1) (h:(1+y)*(1 - y)*(x*y*(x*y))*(r*r)=1) :
  r*((1+y)*(1 - y))*c*(r*((1+y)*(1 - y))*c)*(1 - x*i*(x*i))=1:=by
 have e1:1 - x*i*(x*i)=1+x*x:=by
  have:x*i*(x*i)=i*i*(x*x):=by clear o hc h hi; grind (splits:=0) -lia -linarith
  rw [this,hi]; clear this o hc h hi; grind (splits:=0) -lia -linarith
 have e2:(1+x*x)*((1+y)*(1 - y))=(-1 - d)*(x*y*(x*y)):=by clear hc h hi e1; grind (splits:=0) -lia -linarith
 have e3:r*((1+y)*(1 - y))*c*(r*((1+y)*(1 - y))*c)*(1+x*x)=r*r*((1+y)*(1 - y))*(c*c)*((1+x*x)*((1+y)*(1 - y))):=by clear hc h hi e1 e2 o; grind (splits:=0) -lia -linarith
 have e4:r*r*((1+y)*(1 - y))*(c*c)*((-1 - d)*(x*y*(x*y)))=(1+y)*(1 - y)*(x*y*(x*y))*(r*r)*(c*c*(-1 - d)):=by clear hc h hi e1 e2 e3 o; grind (splits:=0) -lia -linarith
 rw [e1,e3,e2,e4,h,hc,Fin.mul_one]
theorem ed5 {den Y s:Fin q} (hs:s=den*(1 - Y) ∨ s=-(den*(1 - Y))) (h:den*den*(1 - Y*Y)=1):s*s*(1+Y)=1 - Y:=by
 have e:s*s*(1+Y)=den*den*(1 - Y*Y)*(1 - Y):=by
  rcases hs with rfl | rfl <;> clear h <;> grind (splits:=0) -lia -linarith
 rw [e,h]; clear e hs h; grind (splits:=0) -lia -linarith
theorem ed6 {r x y v:Fin q} (hv:v=(1+y)*(1 - y)*(x*y*(x*y))) (h:v*(r*r)=1):r*((1+y)*(1 - y))*(r*(x*y))*(x*y)=1:=by
 subst hv
 refine Eq.trans ?_ h
 clear h; grind (splits:=0) -lia -linarith
theorem ed7 {d i x y:Fin q} (hi:i*i=-1) (o:y*y - x*x=1+d*x*x*y*y):i*x*(i*x) - i*y*(i*y)=1+d*(i*y)*(i*y)*(i*x)*(i*x):=by
 have e1:i*x*(i*x) - i*y*(i*y)=i*i*(x*x - y*y):=by clear hi o; grind (splits:=0) -lia -linarith
 have e2:1+d*(i*y)*(i*y)*(i*x)*(i*x)=1+d*(i*i*(i*i))*(x*x*(y*y)):=by clear hi o e1; grind (splits:=0) -lia -linarith
 rw [e1,e2,hi]
 clear e1 e2 hi
 grind (splits:=0) -lia -linarith
theorem ed8 {d x y:Fin q} (o:y*y - x*x=1+d*x*x*y*y):-y*-y - -x*-x=1+d*-x*-x*-y*-y:=by grind (splits:=0) -lia -linarith
theorem ed9 {Y:Fin q}:-Y*-Y=Y*Y:=by grind (splits:=0) -lia -linarith
end
theorem cO_sq:cO*cO*(-1 - CP.d)=1:=by
 have:fn (cON*cON%P25*(P25 - 1+(P25 - dQN)))=fn 1:=fn_eq.2 (by decide +kernel)
 rw [fn_mul,fn_mod,fn_mul,fn_add,fn_one] at this
 have a:fn (P25 - 1)=-1:=by
  have h:fn (P25 - 1+1)=0:=fn_eq0.2 (by decide)
  rw [fn_add,fn_one] at h
  grind (splits:=0) -lia -linarith
 have b:fn (P25 - dQN)=-CP.d:=by
  have h:fn (P25 - dQN+dQN)=0:=fn_eq0.2 (by decide)
  rw [fn_add] at h
  have e:CP.d=fn dQN:=rfl
  rw [e]
  grind (splits:=0) -lia -linarith
 rw [a,b] at this
 have e:cO=fn cON:=rfl
 rw [e]
 generalize fn cON=c at *
 generalize CP.d=d at *
 refine Eq.trans ?_ this
 clear this a b
 grind (splits:=0) -lia -linarith
theorem absQ_zero:absQ 0=0:=rfl
theorem enc_e4 {g:CP.G} (h0:g.1.1*g.1.2=0):encG g=0:=by
 have hv:(1+g.1.2)*(1 - g.1.2)*(g.1.1*g.1.2*(g.1.1*g.1.2))=0:=by rw [h0,Fin.mul_zero,Fin.mul_zero]
 unfold encG encQ
 rw [hv,(ratQ_spec 1 0).zero rfl]
 unfold encI
 have e:∀ b:Bool,cond b (0*((1+g.1.2)*(1 - g.1.2))*cO) (0*(g.1.1*g.1.2))=0:=by
  intro b
  cases b
  ·rw [cond_false,Fin.zero_mul]
  ·rw [cond_true,Fin.zero_mul,Fin.zero_mul]
 rw [e,Fin.zero_mul,absQ_zero]
theorem enc_rep {g:CP.G} (hE:Ev g):∃ h,sim g h /\ Canon h /\ Told h (encG g):=by
 by_cases h0:g.1.1*g.1.2=0
 ·refine ⟨CP.zero,?_,⟨rfl,rfl,fun _=>rfl⟩,?_⟩
  ·refine (sim_iff g CP.zero).2 ?_
   show g.1.1*1=g.1.2*0 ∨ g.1.2*1=g.1.1*0
   rw [Fin.mul_one,Fin.mul_one,Fin.mul_zero,Fin.mul_zero]
   exact CP.noz _ _ h0
  ·rw [enc_e4 h0]
   refine ⟨rfl,?_⟩
   show (0:Fin QP)*0*(1+1)=1 - 1
   grind (splits:=0) -lia -linarith
 ·have hx:g.1.1 ≠ 0:=fun e=>h0 (by rw [e,Fin.zero_mul])
  have hy:g.1.2 ≠ 0:=fun e=>h0 (by rw [e,Fin.mul_zero])
  have o:=on_G g
  have hi:=CP.ii
  obtain ⟨w,hw⟩:=hE
  have hv:=ed1 o hw
  have R:=ratQ_spec 1 ((1+g.1.2)*(1 - g.1.2)*(g.1.1*g.1.2*(g.1.1*g.1.2)))
  have w0:w ≠ 0:=Ev_ne hw
  have v0:(1+g.1.2)*(1 - g.1.2)*(g.1.1*g.1.2*(g.1.1*g.1.2)) ≠ 0:=by
   rw [hv]
   have:=CP.mul_ne w0 (CP.mul_ne (CP.mul_ne hx hx) hy)
   exact CP.mul_ne this this
  have hb:(ratQ 1 ((1+g.1.2)*(1 - g.1.2)*(g.1.1*g.1.2*(g.1.1*g.1.2)))).2=true:=by
   cases hb:(ratQ 1 ((1+g.1.2)*(1 - g.1.2)*(g.1.1*g.1.2*(g.1.1*g.1.2)))).2
   ·exact (CP.h1 (isq_Q _ _ (ed2 hv (R.no hb v0)))).elim
   ·rfl
  have hr:=R.yes hb
  unfold encG encQ
  generalize (ratQ 1 ((1+g.1.2)*(1 - g.1.2)*(g.1.1*g.1.2*(g.1.1*g.1.2)))).1=r at *
  have hZ:zQ r g.1.1 g.1.2 1 (g.1.1*g.1.2)=1:=ed6 rfl hr
  unfold encI
  rw [hZ,Fin.mul_one,Fin.mul_one]
  cases hrot:negQ (g.1.1*g.1.2)
  ·rw [cond_false,cond_false,cond_false]
   have hd:=ed3 hr
   cases hfl:negQ g.1.1
   ·rw [cond_false]
    refine ⟨g,sim_refl g,⟨hfl,hrot,fun e=>absurd e h0⟩,⟨absQ_even _,?_⟩⟩
    exact ed5 (absQ_pm _) hd
   ·rw [cond_true]
    refine ⟨⟨(-g.1.1,-g.1.2),ed8 o⟩,?_,⟨?_,?_,?_⟩,⟨absQ_even _,?_⟩⟩
    ·refine (sim_iff g _).2 (.inl ?_)
     show g.1.1*-g.1.2=g.1.2*-g.1.1
     clear hd hr hw hv o hi R hb hZ; grind (splits:=0) -lia -linarith
    ·show negQ (-g.1.1)=false
     rw [neg_negQ hx,hfl]; rfl
    ·show negQ (-g.1.1*-g.1.2)=false
     rw [ec1.1]; exact hrot
    ·intro e
     have e:-g.1.1*-g.1.2=0:=e
     rw [ec1.1] at e
     exact absurd e h0
    ·show _*_*(1+-g.1.2)=1 - -g.1.2
     exact ed5 (absQ_pm _) (by rw [ed9]; exact hd)
  ·rw [cond_true,cond_true,cond_true]
   have hd:=ed4 hi o cO_sq hr
   have ht:negQ (CP.i*g.1.2*(CP.i*g.1.1))=false:=by
    have e:CP.i*g.1.2*(CP.i*g.1.1)=-(g.1.1*g.1.2):=by
     have e1:CP.i*g.1.2*(CP.i*g.1.1)=CP.i*CP.i*(g.1.1*g.1.2):=by clear hd hr hw hv o hi R hb hZ; grind (splits:=0) -lia -linarith
     rw [e1,hi]; clear e1 hd hr hw hv o hi R hb hZ; grind (splits:=0) -lia -linarith
    rw [e,neg_negQ h0,hrot]; rfl
   have tz:CP.i*g.1.2*(CP.i*g.1.1) ≠ 0:=CP.mul_ne (CP.mul_ne CP.i_ne hy) (CP.mul_ne CP.i_ne hx)
   have c1:g.1.2*CP.i=CP.i*g.1.2:=Fin.mul_comm _ _
   have c2:g.1.1*CP.i=CP.i*g.1.1:=Fin.mul_comm _ _
   rw [c1,c2]
   rw [c2] at hd
   have yi:CP.i*g.1.2 ≠ 0:=CP.mul_ne CP.i_ne hy
   cases hfl:negQ (CP.i*g.1.2)
   ·rw [cond_false]
    refine ⟨⟨(CP.i*g.1.2,CP.i*g.1.1),ed7 hi o⟩,?_,⟨hfl,ht,fun e=>absurd e tz⟩,⟨absQ_even _,?_⟩⟩
    ·refine (sim_iff g _).2 (.inr ?_)
     show g.1.2*(CP.i*g.1.1)=g.1.1*(CP.i*g.1.2)
     clear hd hr hw hv o hi R hb hZ; grind (splits:=0) -lia -linarith
    ·exact ed5 (absQ_pm _) hd
   ·rw [cond_true]
    refine ⟨⟨(-(CP.i*g.1.2),-(CP.i*g.1.1)),ed8 (ed7 hi o)⟩,?_,⟨?_,?_,?_⟩,⟨absQ_even _,?_⟩⟩
    ·refine (sim_iff g _).2 (.inr ?_)
     show g.1.2*-(CP.i*g.1.1)=g.1.1*-(CP.i*g.1.2)
     clear hd hr hw hv o hi R hb hZ; grind (splits:=0) -lia -linarith
    ·show negQ (-(CP.i*g.1.2))=false
     rw [neg_negQ yi,hfl]; rfl
    ·show negQ (-(CP.i*g.1.2)*-(CP.i*g.1.1))=false
     rw [ec2]; exact ht
    ·intro e
     have e:-(CP.i*g.1.2)*-(CP.i*g.1.1)=0:=e
     rw [ec2] at e
     exact absurd e tz
    ·show _*_*(1+-(CP.i*g.1.1))=1 - -(CP.i*g.1.1)
     exact ed5 (absQ_pm _) (by rw [ed9]; exact hd)
theorem enc_sim {g g':CP.G} (hE:Ev g) (k:sim g g'):encG g'=encG g:=by
 have hE':Ev g':=by
  obtain ⟨t,ht,rfl⟩:=sim_to k
  exact Ev_add hE (Ev_e4 ht)
 obtain ⟨h,s1,c1,t1⟩:=enc_rep hE
 obtain ⟨h',s2,c2,t2⟩:=enc_rep hE'
 have e:h'=h:=c1.uniq c2 (sim_trans (sim_symm s1) (sim_trans k s2))
 subst e
 exact t2.uniq t1
def paV (s:Fin QP):Fin QP:=-(CP.d*((1 - s*s)*(1 - s*s))) - (1+s*s)*(1+s*s)
def paI (s:Fin QP):Fin QP × Bool:=ratQ 1 (paV s*((1+s*s)*(1+s*s)))
def paX (s:Fin QP):Fin QP:=absQ ((s+s)*((paI s).1*(1+s*s)))
def paY (s:Fin QP):Fin QP:=(1 - s*s)*((paI s).1*((paI s).1*(1+s*s))*paV s)
section
variable {q:Nat} [NeZero q]
theorem da1 {s Y:Fin q} (h:s*s*(1+Y)=1 - Y):(1 - s*s)*(1+Y)=Y+Y /\ (1+s*s)*(1+Y)=2:=by
 have e1:(1 - s*s)*(1+Y)=1+Y - s*s*(1+Y):=by clear h; grind (splits:=0) -lia -linarith
 have e2:(1+s*s)*(1+Y)=1+Y+s*s*(1+Y):=by clear h e1; grind (splits:=0) -lia -linarith
 rw [e1,e2,h]
 clear e1 e2 h
 constructor <;> grind (splits:=0) -lia -linarith
theorem da2 {d a b W Y w:Fin q} (h1:a*W=Y+Y) (h2:b*W=2) (hw:w*w=-(1+d*(Y*Y))):(-(d*(a*a)) - b*b)*(W*W)=2*w*(2*w):=by
 have e:(-(d*(a*a)) - b*b)*(W*W)=-(d*((a*W)*(a*W))) - (b*W)*(b*W):=by clear h1 h2 hw; grind (splits:=0) -lia -linarith
 rw [e,h1,h2]
 have e2:2*w*(2*w)=4*(w*w):=by clear e h1 h2 hw; grind (splits:=0) -lia -linarith
 rw [e2,hw]
 clear e e2 h1 h2 hw
 grind (splits:=0) -lia -linarith
theorem da3 {v b W w:Fin q} (h:v*(W*W)=2*w*(2*w)) (h2:b*W=2):v*(b*b)*(W*W*(W*W))=2*2*w*(2*2*w):=by
 have e:v*(b*b)*(W*W*(W*W))=v*(W*W)*((b*W)*(b*W)):=by clear h h2; grind (splits:=0) -lia -linarith
 rw [e,h,h2]
 clear e h h2
 grind (splits:=0) -lia -linarith
theorem da4 {B r K c i:Fin q} (h:B*(K*K)=c*c) (hr:B*(r*r)=i*1):c*r*(c*r)=i*(K*K):=by
 have e:c*r*(c*r)=c*c*(r*r):=by clear h hr; grind (splits:=0) -lia -linarith
 have e2:B*(K*K)*(r*r)=B*(r*r)*(K*K):=by clear h hr e; grind (splits:=0) -lia -linarith
 rw [e,<-h,e2,hr,Fin.mul_one]
theorem da5 {a b r v W Y:Fin q} (hr:v*(b*b)*(r*r)=1) (h1:a*W=Y+Y) (h2:b*W=2):a*(r*(r*b)*v)*2=Y*2:=by
 have e:a*(r*(r*b)*v)*(b*W)=a*W*(v*(b*b)*(r*r)):=by clear hr h1 h2; grind (splits:=0) -lia -linarith
 rw [h2,hr,h1] at e
 rw [e]
 clear e hr h1 h2
 grind (splits:=0) -lia -linarith
theorem da6 {d s b r v W X Y w:Fin q} (hr:v*(b*b)*(r*r)=1) (hW:W=1+Y) (hs:s*s*W=1 - Y) (hv:v*(W*W)=2*w*(2*w)) (o:Y*Y - X*X=1+d*X*X*Y*Y) (hw:w*w=-(1+d*(Y*Y))) :
  (s+s)*(r*b)*((s+s)*(r*b))*(2*w*(2*w))=X*X*(2*w*(2*w)):=by
 have e1:(s+s)*(r*b)*((s+s)*(r*b))*(v*(W*W))=4*(s*s*W)*W*(v*(b*b)*(r*r)):=by clear hr hW hs hv o hw; grind (splits:=0) -lia -linarith
 rw [hv,hr,hs,hW,Fin.mul_one] at e1
 have e2:X*X*(2*w*(2*w))=4*(X*X*(w*w)):=by clear hr hW hs hv o hw e1; grind (splits:=0) -lia -linarith
 rw [e1,e2,hw]
 clear e1 e2 hr hW hs hv hw
 grind (splits:=0) -lia -linarith
theorem da7 {a x X:Fin q} (ha:a=x ∨ a=-x) (h:x*x=X*X):a*a=X*X:=by
 rw [<-h]
 rcases ha with rfl | rfl
 ·rfl
 ·clear h; grind (splits:=0) -lia -linarith
end
theorem dec_pt {h:CP.G} {s:Fin QP} (c:Canon h) (k:Told h s) (hE:Ev h):(paI s).2=true /\ paX s=h.1.1 /\ paY s=h.1.2:=by
 have W0:=one_y k
 have hs:=k.root
 have o:=on_G h
 obtain ⟨w,hw⟩:=hE
 have w0:w ≠ 0:=Ev_ne hw
 obtain ⟨h1,h2⟩:=da1 hs
 have hv:paV s*((1+h.1.2)*(1+h.1.2))=2*w*(2*w):=da2 h1 h2 hw
 have hB:=da3 hv h2
 have t0:(2:Fin QP) ≠ 0:=CP.h2
 have c0:2*2*w ≠ 0:=CP.mul_ne (CP.mul_ne t0 t0) w0
 have B0:paV s*((1+s*s)*(1+s*s)) ≠ 0:=fun e=>by
  rw [e,Fin.zero_mul] at hB
  exact CP.mul_ne c0 c0 hB.symm
 have R:=ratQ_spec 1 (paV s*((1+s*s)*(1+s*s)))
 have eR:ratQ 1 (paV s*((1+s*s)*(1+s*s)))=paI s:=rfl
 rw [eR] at R
 have hb:(paI s).2=true:=by
  cases hb:(paI s).2
  ·exact (CP.mul_ne W0 W0 (isq_Q _ _ (da4 hB (R.no hb B0)))).elim
  ·rfl
 have hr:=R.yes hb
 refine ⟨hb,?_,?_⟩
 ·have e:=da6 hr rfl hs hv o hw
  have z:=CP.mul_ne t0 w0
  have e:=CP.can (CP.mul_ne z z) e
  have ev:=absQ_even ((s+s)*((paI s).1*(1+s*s)))
  have pm:=absQ_pm ((s+s)*((paI s).1*(1+s*s)))
  exact even_pm ev c.x (sq_pm1 (da7 pm e))
 ·exact CP.can t0 (da5 hr h1 h2)
theorem dec_enc {g:CP.G} (hE:Ev g):∃ h,sim g h /\ (paI (encG g)).2=true /\ paX (encG g)=h.1.1 /\ paY (encG g)=h.1.2 /\ negQ (h.1.1*h.1.2)=false /\ h.1.2 ≠ 0 /\ negQ (encG g)=false:=by
 obtain ⟨h,s1,c,k⟩:=enc_rep hE
 have hE':Ev h:=by
  obtain ⟨t,ht,rfl⟩:=sim_to s1
  exact Ev_add hE (Ev_e4 ht)
 obtain ⟨a,b,d⟩:=dec_pt c k hE'
 refine ⟨h,s1,a,b,d,c.t,fun e=>?_,k.even⟩
 have hz:=c.z (by rw [e,Fin.mul_zero])
 rw [hz] at e
 exact CP.h1 e
theorem pigeon:∀ (n m:Nat) (f:Nat->Nat),(∀ k,k < n->f k < m)->(∀ k l,k < n->l < n->f k=f l->k=l)->n <= m:=by
 intro n
 induction n with
 | zero=>intro m f _ _; exact Nat.zero_le _
 | succ n ih=>
  intro m f h1 h2
  have hm:0 < m:=by have:=h1 n (by omega); omega
  obtain ⟨m,rfl⟩:∃ m',m=m'+1:=⟨m - 1,by omega⟩
  have key:n <= m:=by
   refine ih m (fun k=>if f k=m then f n else f k) (fun k hk=>?_) (fun k l hk hl e=>?_)
   ·show (if f k=m then f n else f k) < m
    have a:=h1 k (by omega)
    have b:=h1 n (by omega)
    split
    ·rename_i h
     have:f n ≠ m:=fun e=>by have:=h2 k n (by omega) (by omega) (h.trans e.symm); omega
     omega
    ·rename_i h; omega
   ·have e:(if f k=m then f n else f k)=(if f l=m then f n else f l):=e
    split at e <;> split at e
    ·rename_i a b; exact h2 k l (by omega) (by omega) (a.trans b.symm)
    ·have:=h2 n l (by omega) (by omega) e; omega
    ·have:=h2 k n (by omega) (by omega) e; omega
    ·exact h2 k l (by omega) (by omega) e
  omega
abbrev t8x:Nat:=14399317868200118260347934320527232580618823971194345261214217575416788799818
abbrev t8y:Nat:=2707385501144840649318225287225658788936804267575313519463743609750303402022
theorem t8_on:CP.On2 (fn t8x,fn t8y):=on_nat (u:=t8x*t8x%P25) (v:=0) (w:=1+dQN*t8x*t8x*t8y*t8y) rfl (by decide +kernel) rfl
def gT:CP.G:=⟨(fn t8x,fn t8y),t8_on⟩
theorem gT_dbl:(CP.nsm 2 gT).1.2=0:=by
 have e:CP.nsm 2 gT=CP.add gT gT:=by rw [CP.nsm_add 1 1,CP.nsm_one]
 rw [e]
 have h:=add_y gT gT
 have m:=CP.dm_ne gT.2 gT.2
 have z:gT.1.2*gT.1.2+gT.1.1*gT.1.1=0:=by
  show fn t8y*fn t8y+fn t8x*fn t8x=0
  rw [<-fn_mul,<-fn_mul,<-fn_add]
  exact fn_eq0.2 (by decide +kernel)
 exact (CP.noz _ _ (h.trans z)).resolve_right m
theorem gT2_e4:e4 (CP.nsm 2 gT):=.inr gT_dbl
section
variable {q:Nat} [NeZero q]
theorem tq1 {d x y:Fin q} (z:y=0) (o:y*y - x*x=1+d*x*x*y*y):x*y+x*y=0 /\ y*y+x*x=-1:=by
 subst z
 constructor
 ·clear o; grind (splits:=0) -lia -linarith
 ·grind (splits:=0) -lia -linarith
theorem tq2 {x y:Fin q} (a:x=0) (b:y=-1):x*y+x*y=0 /\ y*y+x*x=1:=by
 subst a b
 constructor <;> grind (splits:=0) -lia -linarith
theorem tq3 (h:(1:Fin q)=-1):(2:Fin q)=0:=by grind (splits:=0) -lia -linarith
end
theorem gT4:(CP.nsm 4 gT).1.1=0 /\ (CP.nsm 4 gT).1.2=-1:=by
 have e:CP.nsm 4 gT=CP.add (CP.nsm 2 gT) (CP.nsm 2 gT):=by rw [<-CP.nsm_add]
 obtain ⟨h1,h2⟩:=add_e4 (CP.nsm 2 gT) gT2_e4
 rw [e,h1,h2]
 exact tq1 gT_dbl (on_G (CP.nsm 2 gT))
theorem gT4_ne:CP.nsm 4 gT ≠ CP.zero:=fun h=>by
 have e:=gT4.2
 rw [h] at e
 exact CP.h2 (tq3 e)
theorem gT8:CP.nsm 8 gT=CP.zero:=by
 have e:CP.nsm 8 gT=CP.add (CP.nsm 4 gT) (CP.nsm 4 gT):=by rw [<-CP.nsm_add]
 obtain ⟨a,b⟩:=gT4
 obtain ⟨h1,h2⟩:=add_e4 (CP.nsm 4 gT) (t:=CP.nsm 4 gT) (.inl a)
 have h:=tq2 a b
 rw [e]
 exact Subtype.ext (Prod.ext (h1.trans h.1) (h2.trans h.2))
abbrev t8n:Nat:=28684908821141429758912547916212233914183938327803420948194326298794999701186
theorem t8_half:t8n ^ hQN%P25=P25 - 1:=by
 rw [<-pm_eq t8n P25 256 hQN (by decide +kernel)]
 decide +kernel
theorem gT_odd:¬ Ev gT:=by
 rintro ⟨w,hw⟩
 have e:fn t8n=-(1+CP.d*(gT.1.2*gT.1.2)):=by
  have h:fn (t8n+(1+dQN*(t8y*t8y)))=0:=fn_eq0.2 (by decide +kernel)
  rw [fn_add,fn_add,fn_mul,fn_mul,fn_one] at h
  show fn t8n=-(1+fn dQN*(fn t8y*fn t8y))
  generalize fn t8n=a at *
  generalize 1+fn dQN*(fn t8y*fn t8y)=b at *
  clear hw
  grind (splits:=0) -lia -linarith
 rw [<-e,<-fn_val w,<-fn_mul] at hw
 have h1:fn (w.val*w.val)=fn (t8n*(1*1)):=hw.trans (congrArg fn (Nat.mul_one _).symm)
 have h2:1%P25=0:=nsqN (p:=P25) (h:=hQN) (d:=t8n) (a:=w.val) (b:=1) prP (by decide) (by decide) t8_half (fn_eq.1 h1)
 revert h2
 decide
def codeG (g:CP.G):Nat:=2*g.1.1.val+g.1.2.val%2
theorem codeG_lt (g:CP.G):codeG g < 2*P25:=by
 have h:=QP_lt g.1.1
 unfold codeG
 have:g.1.2.val%2 < 2:=Nat.mod_lt _ (by omega)
 omega
section
variable {q:Nat} [NeZero q]
theorem cn1 {d x y y':Fin q} (o:y*y - x*x=1+d*x*x*y*y) (o':y'*y' - x*x=1+d*x*x*y'*y'):y*y*(1 - d*(x*x))=y'*y'*(1 - d*(x*x)):=by grind (splits:=0) -lia -linarith
theorem cn2 {d x:Fin q} (h:1 - d*(x*x)=0):1*1=d*(x*x):=by grind (splits:=0) -lia -linarith
theorem cn3 {d x:Fin q} (h:1 - d*(x*x)=0) (h0:x=0):(1:Fin q)=0:=by
 subst h0
 grind (splits:=0) -lia -linarith
end
theorem codeG_inj {g h:CP.G} (e:codeG g=codeG h):g=h:=by
 unfold codeG at e
 have b1:g.1.2.val%2 < 2:=Nat.mod_lt _ (by omega)
 have b2:h.1.2.val%2 < 2:=Nat.mod_lt _ (by omega)
 have e1:g.1.1=h.1.1:=Fin.ext (by omega)
 have e2:g.1.2.val%2=h.1.2.val%2:=by omega
 have o1:=on_G g
 have o2:=on_G h
 rw [e1] at o1
 have z:1 - CP.d*(h.1.1*h.1.1) ≠ 0:=fun k=>CP.h1 (cn3 k (CP.nsq _ _ (cn2 k)))
 have s:=CP.can z (cn1 o1 o2)
 refine Subtype.ext (Prod.ext e1 ?_)
 rcases sq_pm1 s with k | k
 ·exact k
 ·by_cases h0:h.1.2=0
  ·rw [k,h0,neg_zeroQ]
  ·exfalso
   have n:=neg_negQ h0
   have n2:negQ g.1.2=negQ h.1.2:=by unfold negQ; rw [e2]
   rw [k,n] at n2
   cases hh:negQ h.1.2 <;> rw [hh] at n2 <;> cases n2
theorem LNp0:0 < LN:=by decide
def comb (i j:Nat):CP.G:=CP.add (CP.nsm i gB) (CP.nsm j gT)
theorem comb_add (i j k l:Nat):CP.add (comb i j) (comb k l)=comb (i+k) (j+l):=by
 unfold comb
 rw [CP.nsm_add,CP.nsm_add,CP.add_assoc,<-CP.add_assoc (CP.nsm j gT),CP.add_comm (CP.nsm j gT),CP.add_assoc,<-CP.add_assoc]
theorem comb_zero (i j:Nat):comb (LN*i) (8*j)=CP.zero:=by
 unfold comb
 rw [Nat.mul_comm LN,Nat.mul_comm 8,CP.nsm_mul,CP.nsm_mul,gB_ord,gT8,CP.nsm_zero,CP.nsm_zero,CP.zero_add]
theorem comb_neg (i j:Nat):CP.neg (comb i j)=comb ((LN - 1)*i) (7*j):=by
 refine (CP.neg_eq ?_).symm
 have e:(LN - 1)*i+i=LN*i:=by
  have:LN=(LN - 1)+1:=by decide
  rw (config:={ occs:=.pos [2] }) [this]
  rw [Nat.add_mul,Nat.one_mul]
 rw [comb_add,e,show 7*j+j=8*j by omega,comb_zero]
abbrev u8N:Nat:=2713877091499598330239944961141122840321418634767465352250731601857045344121
theorem u8_inv:u8N*8%LN=1:=by decide
theorem comb_8 (i j:Nat):CP.nsm 8 (comb i j)=CP.nsm (8*i) gB:=by
 unfold comb
 rw [CP.nsm_sum,CP.nsm_comm 8 j,gT8,CP.nsm_zero,CP.add_zero,CP.nsm_mul]
theorem back8 {i:Nat} (h:i < LN):u8N*(8*i%LN)%LN=i:=by
 rw [Nat.mul_mod,Nat.mod_mod,<-Nat.mul_mod,<-Nat.mul_assoc,Nat.mul_mod,u8_inv,Nat.one_mul,Nat.mod_mod,Nat.mod_eq_of_lt h]
theorem gT_no {m:Nat} (h0:0 < m) (h8:m < 8):CP.nsm m gT ≠ CP.zero:=fun e=>by
 have key:∀ u:Nat,u*m%8=4->False:=fun u hu=>by
  have h:=CP.nsm_mod gT8 (u*m)
  rw [hu,CP.nsm_mul,e,CP.nsm_zero] at h
  exact gT4_ne h
 have:m=1 ∨ m=2 ∨ m=3 ∨ m=4 ∨ m=5 ∨ m=6 ∨ m=7:=by omega
 rcases this with rfl | rfl | rfl | rfl | rfl | rfl | rfl
 ·exact key 4 rfl
 ·exact key 2 rfl
 ·exact key 4 rfl
 ·exact key 1 rfl
 ·exact key 4 rfl
 ·exact key 2 rfl
 ·exact key 4 rfl
theorem gT_lt {a b:Nat} (h:a < b) (hb:b < 8):CP.nsm a gT ≠ CP.nsm b gT:=fun e=>by
 have h1:CP.nsm b gT=CP.add (CP.nsm (b - a) gT) (CP.nsm a gT):=by rw [<-CP.nsm_add,Nat.sub_add_cancel (Nat.le_of_lt h)]
 rw [<-e] at h1
 have h2:CP.add (CP.nsm (b - a) gT) (CP.nsm a gT)=CP.add CP.zero (CP.nsm a gT):=by rw [<-h1,CP.zero_add]
 exact gT_no (by omega) (by omega) (CP.add_can h2)
theorem comb_inj {i j k l:Nat} (hi:i < LN) (hk:k < LN) (hj:j < 8) (hl:l < 8) (e:comb i j=comb k l):i=k /\ j=l:=by
 have h8:CP.nsm (8*i) gB=CP.nsm (8*k) gB:=by rw [<-comb_8 i j,<-comb_8 k l,e]
 rw [<-CP.nsm_mod gB_ord (8*i),<-CP.nsm_mod gB_ord (8*k)] at h8
 have h1:=(nsm_inj (Nat.mod_lt _ LNp0) (Nat.mod_lt _ LNp0)).1 h8
 have ik:i=k:=by rw [<-back8 hi,h1,back8 hk]
 subst ik
 refine ⟨rfl,?_⟩
 unfold comb at e
 rw [CP.add_comm,CP.add_comm (CP.nsm i gB)] at e
 have e:=CP.add_can e
 rcases Nat.lt_trichotomy j l with h | h | h
 ·exact absurd e (gT_lt h hl)
 ·exact h
 ·exact absurd e.symm (gT_lt h hj)
theorem two_places {x y:Nat} (hx:x < 16) (hy:y < 16) (a:x / 8 ≠ 0) (b:y / 8 ≠ 0):x / 8=y / 8:=by omega
theorem all_comb (P:CP.G):∃ i j,P=comb i j:=by
 refine Classical.byContradiction fun hN=>?_
 have hN:∀ i j,P ≠ comb i j:=fun i j e=>hN ⟨i,j,e⟩
 have pts:∀ i j k l,CP.add CP.zero (comb i j) ≠ CP.add P (comb k l):=fun i j k l e=>by
  rw [CP.zero_add] at e
  have h:P=CP.add (comb i j) (CP.neg (comb k l)):=by rw [e,CP.add_assoc,CP.add_neg,CP.add_zero]
  rw [comb_neg,comb_add] at h
  exact hN _ _ h
 have key:=pigeon (16*LN) (2*P25) (fun k=>codeG (CP.add (bif Nat.beq (k / LN / 8) 0 then CP.zero else P) (comb (k%LN) (k / LN%8)))) (fun k _=>codeG_lt _) (fun k l hk hl e=>by
  have e:=codeG_inj e
  have k1:k%LN < LN:=Nat.mod_lt _ LNp0
  have l1:l%LN < LN:=Nat.mod_lt _ LNp0
  have k2:k / LN%8 < 8:=Nat.mod_lt _ (by omega)
  have l2:l / LN%8 < 8:=Nat.mod_lt _ (by omega)
  have kd:=Nat.div_add_mod k LN
  have ld:=Nat.div_add_mod l LN
  have k3:k / LN < 16:=Nat.div_lt_of_lt_mul (by rw [Nat.mul_comm]; exact hk)
  have l3:l / LN < 16:=Nat.div_lt_of_lt_mul (by rw [Nat.mul_comm]; exact hl)
  have can:∀ Z:CP.G,CP.add Z (comb (k%LN) (k / LN%8))=CP.add Z (comb (l%LN) (l / LN%8))->k%LN=l%LN /\ k / LN%8=l / LN%8:=fun Z h=>by
   rw [CP.add_comm,CP.add_comm Z] at h
   exact comb_inj k1 l1 k2 l2 (CP.add_can h)
  have fin:k / LN / 8=l / LN / 8->k%LN=l%LN->k / LN%8=l / LN%8->k=l:=fun a b c=>by
   have:k / LN=l / LN:=by omega
   rw [<-kd,<-ld,this,b]
  by_cases c1:k / LN / 8=0 <;> by_cases c2:l / LN / 8=0
  ·have b1:Nat.beq (k / LN / 8) 0=true:=by rw [c1]; rfl
   have b2:Nat.beq (l / LN / 8) 0=true:=by rw [c2]; rfl
   rw [b1,b2,cond_true] at e
   obtain ⟨a,b⟩:=can _ e
   exact fin (by omega) a b
  ·have b1:Nat.beq (k / LN / 8) 0=true:=by rw [c1]; rfl
   have b2:Nat.beq (l / LN / 8) 0=false:=by
    cases hb:Nat.beq (l / LN / 8) 0
    ·rfl
    ·exact absurd (Nat.eq_of_beq_eq_true hb) c2
   rw [b1,b2,cond_true,cond_false] at e
   exact absurd e (pts _ _ _ _)
  ·have b2:Nat.beq (l / LN / 8) 0=true:=by rw [c2]; rfl
   have b1:Nat.beq (k / LN / 8) 0=false:=by
    cases hb:Nat.beq (k / LN / 8) 0
    ·rfl
    ·exact absurd (Nat.eq_of_beq_eq_true hb) c1
   rw [b1,b2,cond_true,cond_false] at e
   exact absurd e.symm (pts _ _ _ _)
  ·have b1:Nat.beq (k / LN / 8) 0=false:=by
    cases hb:Nat.beq (k / LN / 8) 0
    ·rfl
    ·exact absurd (Nat.eq_of_beq_eq_true hb) c1
   have b2:Nat.beq (l / LN / 8) 0=false:=by
    cases hb:Nat.beq (l / LN / 8) 0
    ·rfl
    ·exact absurd (Nat.eq_of_beq_eq_true hb) c2
   rw [b1,b2,cond_false] at e
   obtain ⟨a,b⟩:=can _ e
   exact fin (two_places k3 l3 c1 c2) a b)
 revert key
 decide
abbrev bwN:Nat:=782733849386679917404316975711710377819347060143752793023731897284185609433
theorem gB_ev:Ev gB:=by
 refine ⟨fn bwN,?_⟩
 have h:fn (bwN*bwN+(1+dQN*(byN*byN)))=0:=fn_eq0.2 (by decide +kernel)
 rw [fn_add,fn_mul,fn_add,fn_mul,fn_mul,fn_one] at h
 show fn bwN*fn bwN=-(1+fn dQN*(fn byN*fn byN))
 generalize fn bwN*fn bwN=a at *
 generalize 1+fn dQN*(fn byN*fn byN)=b at *
 grind (splits:=0) -lia -linarith
theorem gT_even (q:Nat):e4 (CP.nsm (q*2) gT):=by rw [CP.nsm_mul]; exact e4_nsm gT2_e4 q
theorem ord_e4 {P:CP.G} (hP:Ev P):e4 (CP.nsm LN P):=by
 obtain ⟨i,j,e⟩:=all_comb P
 have hb:Ev (CP.nsm i gB):=Ev_nsm gB_ev i
 have hj:Ev (CP.nsm j gT):=by
  have h:=Ev_add hP (Ev_neg hb)
  have e2:CP.add P (CP.neg (CP.nsm i gB))=CP.nsm j gT:=by
   rw [e]
   unfold comb
   rw [CP.add_comm (CP.nsm i gB),CP.add_assoc,CP.add_neg,CP.add_zero]
  rwa [e2] at h
 have hq:∃ q,j=q*2:=by
  rcases Nat.mod_two_eq_zero_or_one j with h | h
  ·exact ⟨j / 2,by omega⟩
  ·exfalso
   have ej:j=j / 2*2+1:=by omega
   rw [ej,CP.nsm_add,CP.nsm_one] at hj
   have h:=Ev_add hj (Ev_neg (Ev_e4 (gT_even (j / 2))))
   have e2:CP.add (CP.add (CP.nsm (j / 2*2) gT) gT) (CP.neg (CP.nsm (j / 2*2) gT))=gT:=by
    rw [CP.add_comm (CP.nsm (j / 2*2) gT),CP.add_assoc,CP.add_neg,CP.add_zero]
   rw [e2] at h
   exact gT_odd h
 obtain ⟨q,rfl⟩:=hq
 rw [e]
 unfold comb
 rw [CP.nsm_sum,CP.nsm_comm LN i,gB_ord,CP.nsm_zero,CP.zero_add]
 exact e4_nsm (gT_even q) LN
theorem sim_mod {P:CP.G} (hP:Ev P) (n:Nat):sim (CP.nsm n P) (CP.nsm (n%LN) P):=by
 have e:CP.nsm n P=CP.add (CP.nsm (n%LN) P) (CP.nsm (n / LN) (CP.nsm LN P)):=by
  rw [<-CP.nsm_mul,<-CP.nsm_add,Nat.mul_comm,Nat.add_comm,Nat.div_add_mod]
 exact sim_symm (sim_of (e4_nsm (ord_e4 hP) _) e)
theorem e4_free {P:CP.G} (hP:Ev P) {n:Nat} (h0:0 < n) (h:n < LN) (hz:e4 (CP.nsm n P)):e4 P:=by
 have hu:=inv_L h0 h
 generalize n ^ (LN - 2)=u at hu
 have s:=sim_mod hP (u*n)
 rw [Nat.mul_comm u n,hu,CP.nsm_one,Nat.mul_comm n u,CP.nsm_mul] at s
 obtain ⟨t,ht,e⟩:=sim_to s
 rw [e]
 exact e4_add (e4_nsm hz u) ht
open Go Go.Proofs
set_option linter.unusedSimpArgs false
def pU1 (s:Fe):Fe:=subF (fe 1) (mulF s s)
def pU2 (s:Fe):Fe:=addF (fe 1) (mulF s s)
def pVF (s:Fe):Fe:=subF (subF f0 (mulF dF (mulF (pU1 s) (pU1 s)))) (mulF (pU2 s) (pU2 s))
def pIF (s:Fe):Fe × Bool:=ratF (fe 1) (mulF (pVF s) (mulF (pU2 s) (pU2 s)))
def pXF (s:Fe):Fe:=absF (mulF (addF s s) (mulF (pIF s).1 (pU2 s)))
def pYF (s:Fe):Fe:=mulF (pU1 s) (mulF (mulF (pIF s).1 (mulF (pIF s).1 (pU2 s))) (pVF s))
def pTF (s:Fe):Fe:=mulF (pXF s) (pYF s)
def goodP (s:Fe):Bool:=!oddF s && ((pIF s).2 && (!oddF (pTF s) && !zerF (pYF s)))
def ptP (s:Fe):Pt:=⟨pXF s,pYF s,fe 1,pTF s⟩
set_option linter.unusedSectionVars false
theorem ev6 {q:Nat} [NeZero q] (d:Fin q):-1 - d=-(1+d*(1*1)):=by grind (splits:=0) -lia -linarith
theorem ev_half (t:Fin QP):Ev (gH t):=by
 obtain ⟨n0,W0,_⟩:=half_Q t
 obtain ⟨hc,hz⟩:=half_case t
 have hy:(gH t).1.2*(1+hsQ t*hsQ t)=1 - hsQ t*hsQ t:=(gx1 (W:=0) (inv_Q _ W0)).1
 have hk:=hkQ_sq
 by_cases v0:hvQ t=0
 ·refine ⟨eK,?_⟩
  have s0:=hz v0
  rw [s0] at hy
  have e1:(1:Fin QP)+0*0=1:=by rw [Fin.mul_zero,Fin.add_zero]
  have e2:(1:Fin QP) - 0*0=1:=by rw [Fin.mul_zero]; rfl
  rw [e1,e2,Fin.mul_one] at hy
  rw [hy,eK_sq]
  exact ev6 CP.d
 ·have m:=CP.half_main (r:=hrQ t) (u:=huQ t) (c:=hcQ t) (s:=hsQ t) (n:=hnQ t) (v:=hvQ t) rfl rfl rfl hc v0
  exact ⟨_,hm6 hk hy m (inv_Q _ (CP.mul_ne W0 v0))⟩
theorem PT_sam {p q:Pt} {g h:CP.G} (hp:PT p g) (hq:PT q h):samE p q=true ↔ sim g h:=by
 rw [sim_iff]
 unfold samE
 rw [Bool.or_eq_true,ph_sam,ph_sam,ph_mul,ph_mul,ph_mul,ph_mul,hp.x,hp.y,hq.x,hq.y]
 have z:=CP.mul_ne hp.z hq.z
 have r:∀ a b c e:Fin QP,a*ph p.z*(b*ph q.z)=c*ph p.z*(e*ph q.z) ↔ a*b=c*e:=fun a b c e=>by
  have e1:a*ph p.z*(b*ph q.z)=a*b*(ph p.z*ph q.z):=by grind (splits:=0) -lia -linarith
  have e2:c*ph p.z*(e*ph q.z)=c*e*(ph p.z*ph q.z):=by grind (splits:=0) -lia -linarith
  rw [e1,e2]
  exact ⟨fun h=>CP.can z h,fun h=>by rw [h]⟩
 rw [r,r]
theorem enc_inj {g h:CP.G} (hg:Ev g) (hh:Ev h) (e:encG g=encG h):sim g h:=by
 obtain ⟨g',s1,c1,t1⟩:=enc_rep hg
 obtain ⟨h',s2,c2,t2⟩:=enc_rep hh
 have E1:Ev g':=by
  obtain ⟨t,ht,rfl⟩:=sim_to s1
  exact Ev_add hg (Ev_e4 ht)
 have E2:Ev h':=by
  obtain ⟨t,ht,rfl⟩:=sim_to s2
  exact Ev_add hh (Ev_e4 ht)
 rw [<-e] at t2
 obtain ⟨_,x1,y1⟩:=dec_pt c1 t1 E1
 obtain ⟨_,x2,y2⟩:=dec_pt c2 t2 E2
 have:g'=h':=Subtype.ext (Prod.ext (x1.symm.trans x2) (y1.symm.trans y2))
 subst this
 exact sim_trans s1 (sim_symm s2)
theorem by_eq {p q:Pt} {g h:CP.G} (hp:PT p g) (hq:PT q h) (hg:Ev g) (hh:Ev h):lo 32 (fv (bytesF p)%P25)=lo 32 (fv (bytesF q)%P25) ↔ sim g h:=by
 constructor
 ·intro e
  have e2:vB (lo 32 (fv (bytesF p)%P25))=vB (lo 32 (fv (bytesF q)%P25)):=by rw [e]
  rw [vB_loL,vB_loL] at e2
  refine enc_inj hg hh ?_
  rw [<-PT_bytes hp,<-PT_bytes hq]
  exact fn_eq.2 e2
 ·intro s
  have e:=enc_sim hg s
  rw [<-PT_bytes hp,<-PT_bytes hq] at e
  have:=fn_eq.1 e
  rw [this]
section
variable {s:Fe} (hs:fOk s)
include hs
theorem pU1_ok:fOk (pU1 s):=sub_ok (fe_ok 1)
theorem pU2_ok:fOk (pU2 s):=add_ok (fe_ok 1) (mul_ok hs hs)
theorem pVF_ok:fOk (pVF s):=sub_ok (sub_ok f0_ok)
theorem pB_ok:fOk (mulF (pVF s) (mulF (pU2 s) (pU2 s))):=mul_ok (pVF_ok hs) (mul_ok (pU2_ok hs) (pU2_ok hs))
theorem pI_ok:fOk (pIF s).1:=rat_okE (fe_ok 1) (pB_ok hs)
theorem pXF_ok:fOk (pXF s):=abs_okE (mul_ok (add_ok hs hs) (mul_ok (pI_ok hs) (pU2_ok hs)))
theorem pYF_ok:fOk (pYF s):=mul_ok (pU1_ok hs) (mul_ok (mul_ok (pI_ok hs) (mul_ok (pI_ok hs) (pU2_ok hs))) (pVF_ok hs))
theorem pTF_ok:fOk (pTF s):=mul_ok (pXF_ok hs) (pYF_ok hs)
theorem ph_pU1:ph (pU1 s)=1 - ph s*ph s:=by
 unfold pU1
 rw [ph_sub (mul_ok hs hs),ph_mul,ph_1]
theorem ph_pU2:ph (pU2 s)=1+ph s*ph s:=by
 unfold pU2
 rw [ph_add,ph_mul,ph_1]
theorem ph_pVF:ph (pVF s)=paV (ph s):=by
 have k1:=pU1_ok hs
 unfold pVF paV
 rw [ph_sub (mul_ok (pU2_ok hs) (pU2_ok hs)),ph_sub (mul_ok dF_ok (mul_ok k1 k1)),ph_mul,ph_mul,ph_mul,ph_pU1 hs,ph_pU2 hs,ph_f0,ph_d,zero_sub_Q]
theorem ph_pIF:ph (pIF s).1=(paI (ph s)).1 /\ (pIF s).2=(paI (ph s)).2:=by
 have h:=ratF_Q (fe_ok 1) (pB_ok hs)
 rw [ph_1,ph_mul,ph_mul,ph_pVF hs,ph_pU2 hs] at h
 exact h
theorem ph_pXF:ph (pXF s)=paX (ph s):=by
 have h:=mul_ok (add_ok hs hs) (mul_ok (pI_ok hs) (pU2_ok hs))
 unfold pXF paX
 rw [ph_abs h,ph_mul,ph_add,ph_mul,(ph_pIF hs).1,ph_pU2 hs]
theorem ph_pYF:ph (pYF s)=paY (ph s):=by
 unfold pYF paY
 rw [ph_mul,ph_mul,ph_mul,ph_mul,(ph_pIF hs).1,ph_pU2 hs,ph_pU1 hs,ph_pVF hs]
end
theorem parse_ok {p:Pt} {g:CP.G} (hp:PT p g) (hg:Ev g):∃ a h,a=lo 32 (fv (bytesF p)%P25) /\ ok32 a=true /\ Nat.blt (vB a) P25=true /\ goodP (fe (vB a))=true /\ sim g h /\ Ev h /\ PT (ptP (fe (vB a))) h:=by
 obtain ⟨h,sg,hb,hx,hy,ht,h0,he⟩:=dec_enc hg
 have E:Ev h:=by
  obtain ⟨t,k4,rfl⟩:=sim_to sg
  exact Ev_add hg (Ev_e4 k4)
 have lt:fv (bytesF p)%P25 < P25:=mP _
 refine ⟨_,h,rfl,ok32_loL _,by rw [vB_loL]; exact Nat.blt_eq.mpr lt,?_⟩
 rw [vB_loL]
 have hs:fOk (fe (fv (bytesF p)%P25)):=fe_ok _
 have es:ph (fe (fv (bytesF p)%P25))=encG g:=by rw [ph_fe lt,fn_mod]; exact PT_bytes hp
 generalize fe (fv (bytesF p)%P25)=s at *
 rw [<-es] at hb hx hy he
 have px:=ph_pXF hs
 have py:=ph_pYF hs
 have pI:=(ph_pIF hs).2
 rw [hx] at px
 rw [hy] at py
 rw [hb] at pI
 have pt:ph (pTF s)=h.1.1*h.1.2:=by
  unfold pTF
  rw [ph_mul,px,py]
 have z:zerF (pYF s)=false:=by
  rw [Bool.eq_false_iff]
  intro e
  refine h0 (py.symm.trans ?_)
  have e2:fv (pYF s)%P25=0:=Nat.eq_of_beq_eq_true e
  exact fn_eq0.2 e2
 refine ⟨?_,sg,E,?_⟩
 ·unfold goodP
  rw [ph_odd,he,pI,ph_odd,pt,ht,z]; rfl
 ·have e1:ph (fe 1)=1:=ph_1
  refine ⟨⟨pXF_ok hs,pYF_ok hs,fe_ok 1,pTF_ok hs⟩,?_,?_,?_,?_⟩
  ·show ph (fe 1) ≠ 0
   rw [e1]; exact CP.h1
  ·show ph (pXF s)=_*ph (fe 1)
   rw [e1,px,Fin.mul_one]
  ·show ph (pYF s)=_*ph (fe 1)
   rw [e1,py,Fin.mul_one]
  ·show ph (pTF s)=_*ph (fe 1)
   rw [e1,pt,Fin.mul_one]
end Go.Eng
