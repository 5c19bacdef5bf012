import Derived.Test.YteipjabipehbpaaGreatZT1
namespace Go.Eng
set_option linter.unusedVariables false
def negQ (a:Fin QP):Bool:=Nat.beq (a.val%2) 1
def absQ (a:Fin QP):Fin QP:=cond (negQ a) (-a) a
theorem val_neg {a:Fin QP} (h:a ≠ 0):(-a).val=P25 - a.val:=by
 have h1:fn (P25 - a.val)+a=0:=by
  have:fn (P25 - a.val)+fn a.val=0:=by
   rw [<-fn_add,Nat.sub_add_cancel (Nat.le_of_lt (QP_lt a))]
   exact dvd_fn (Nat.dvd_refl _)
  rwa [fn_val] at this
 have h2:-a=fn (P25 - a.val):=by grind (splits:=0) -lia -linarith
 rw [h2,val_fn,Nat.mod_eq_of_lt]
 have h3:a.val ≠ 0:=fun e=>h (by rw [<-fn_val a,e,fn_zero])
 have:=QP_lt a
 omega
theorem neg_negQ {a:Fin QP} (h:a ≠ 0):negQ (-a)=!negQ a:=by
 have h1:=val_neg h
 have h3:=QP_lt a
 unfold negQ
 rw [h1]
 have e:(P25 - a.val)%2=1 - a.val%2:=by
  have:P25%2=1:=by decide
  generalize P25=p at *
  omega
 rw [e]
 rcases Nat.mod_two_eq_zero_or_one a.val with h | h <;> rw [h] <;> rfl
theorem neg_zeroQ:(-(0:Fin QP))=0:=by grind (splits:=0) -lia -linarith
theorem negQ_zero:negQ 0=false:=rfl
theorem absQ_even (a:Fin QP):negQ (absQ a)=false:=by
 unfold absQ
 cases h:negQ a
 ·exact h
 ·by_cases h0:a=0
  ·rw [h0,negQ_zero] at h; cases h
  ·show negQ (-a)=false
   rw [neg_negQ h0,h]; rfl
theorem absQ_pm (a:Fin QP):absQ a=a ∨ absQ a=-a:=by
 unfold absQ
 cases negQ a
 ·exact .inl rfl
 ·exact .inr rfl
theorem absQ_neg (a:Fin QP):absQ (-a)=absQ a:=by
 by_cases h0:a=0
 ·rw [h0,neg_zeroQ]
 ·unfold absQ
  rw [neg_negQ h0]
  cases negQ a
  ·show -(-a)=a
   grind (splits:=0) -lia -linarith
  ·rfl
theorem absQ_of {a:Fin QP} (h:negQ a=false):absQ a=a:=by unfold absQ; rw [h]; rfl
theorem even_pm {a b:Fin QP} (ha:negQ a=false) (hb:negQ b=false) (h:a=b ∨ a=-b):a=b:=by
 rcases h with h | h
 ·exact h
 ·have:=absQ_neg b
  rw [<-h,absQ_of ha,absQ_of hb] at this
  exact this
theorem sq_pm (C:Cur QP) {a b:Fin QP} (h:a*a=b*b):a=b ∨ a=-b:=by
 have:(a - b)*(a+b)=0:=by grind (splits:=0) -lia -linarith
 rcases C.noz _ _ this with h | h
 ·left; grind (splits:=0) -lia -linarith
 ·right; grind (splits:=0) -lia -linarith
theorem i_half:iNQ ^ hQN%P25=P25 - 1:=by
 rw [<-pm_eq iNQ P25 256 hQN (by decide +kernel)]
 decide +kernel
theorem isq_Q (a b:Fin QP) (h:a*a=CP.i*(b*b)):b=0:=by
 have h:a*a=fn iNQ*(b*b):=h
 rw [<-fn_val a,<-fn_val b,<-fn_mul,<-fn_mul,<-fn_mul,fn_eq] at h
 rw [<-fn_val b]
 exact fn_eq0.2 (nsqN (h:=hQN) prP (by decide) (by decide) i_half h)
structure RatOf (u v r:Fin QP) (b:Bool):Prop where
 even:negQ r=false
 yes:b=true->v*(r*r)=u
 no:b=false->v ≠ 0->v*(r*r)=CP.i*u
 nz:b=false->u ≠ 0
 zero:v=0->r=0
 zu:u=0->r=0
theorem RatOf.uniq {u v r r':Fin QP} {b b':Bool} (h:RatOf u v r b) (h':RatOf u v r' b'):r=r' /\ b=b':=by
 have main:∀ {r r':Fin QP} {b b':Bool},RatOf u v r b->RatOf u v r' b'->b=true->b'=false->False:=by
  intro r r' b b' h h' e e'
  have h1:=h.yes e
  have hu:=h'.nz e'
  by_cases hv:v=0
  ·rw [hv,Fin.zero_mul] at h1; exact hu h1.symm
  ·have h2:=h'.no e' hv
   have h3:(v*r')*(v*r')=CP.i*((v*r)*(v*r)):=by
    rw [<-h1] at h2
    clear h1
    grind (splits:=0) -lia -linarith
   have h4:=isq_Q _ _ h3
   rcases CP.noz _ _ h4 with h5 | h5
   ·exact hv h5
   ·rw [h5,Fin.zero_mul,Fin.mul_zero] at h1; exact hu h1.symm
 have eb:b=b':=by
  cases b <;> cases b'
  ·rfl
  ·exact (main h' h rfl rfl).elim
  ·exact (main h h' rfl rfl).elim
  ·rfl
 refine ⟨?_,eb⟩
 subst eb
 by_cases hv:v=0
 ·rw [h.zero hv,h'.zero hv]
 ·refine even_pm h.even h'.even (sq_pm CP ?_)
  have e:v*(r*r)=v*(r'*r'):=by
   cases b
   ·rw [h.no rfl hv,h'.no rfl hv]
   ·rw [h.yes rfl,h'.yes rfl]
  exact CP.can hv (by rw [Fin.mul_comm,e,Fin.mul_comm])
theorem ph_abs {z:Fe} (hz:fOk z):ph (absF z)=absQ (ph z):=by
 have hv:=abs_val hz f0_val
 have h1:absF z=cond (Nat.beq (fv z%P25%2) 1) (subF f0 z) z:=rfl
 rw [h1]
 unfold absQ negQ
 have h2:(ph z).val=fv z%P25:=rfl
 rw [h2]
 cases Nat.beq (fv z%P25%2) 1
 ·rfl
 ·show ph (subF f0 z)=-ph z
  rw [ph_sub hz,ph_f0]
  grind (splits:=0) -lia -linarith
theorem ph_odd (z:Fe):oddF z=negQ (ph z):=rfl
theorem cg_fn {a b:Nat} (h:cg (a:Int) (b:Int)):fn a=fn b:=fn_eq.2 (cg_nat.1 h)
theorem cg_fnN {a b:Nat} (h:cg (a:Int) (-(b:Int))):fn a=-fn b:=by
 have h1:=h.add (cg.refl (b:Int))
 rw [<-Int.natCast_add,Int.add_left_neg] at h1
 have h2:fn (a+b)=0:=fn_eq0.2 (cg_zero.1 h1)
 rw [fn_add] at h2
 grind (splits:=0) -lia -linarith
theorem rat_four {U V R:Int} {e:Nat} (he:8*e+4=P25 - 1) (hU:¬ cg U 0) (hV:¬ cg V 0) (hR:cg R (U*(V*V*V)*(U*(V*V*V*(V*V*V)*V)) ^ e)) :
  cg (V*(R*R)) U ∨ cg (V*(R*R)) (-U) ∨ cg (V*(R*R)) (iZ*U) ∨ cg (V*(R*R)) (-(iZ*U)):=by
 have hW:¬ cg (U*(V*V*V*(V*V*V)*V)) 0:=fun h=>by
  rcases cg_nozero h with h | h
  ·exact hU h
  rcases cg_nozero h with h | h
  ·rcases cg_nozero h with h | h <;>
   ·rcases cg_nozero h with h | h
    ·rcases cg_nozero h with h | h <;> exact hV h
    ·exact hV h
  ·exact hV h
 have h1:cg (V*(R*R)) (U*(U*(V*V*V*(V*V*V)*V)) ^ (2*e+1)):=by
  have h:=(cg.refl V).mul (hR.mul hR)
  have e1:V*(U*(V*V*V)*(U*(V*V*V*(V*V*V)*V)) ^ e*(U*(V*V*V)*(U*(V*V*V*(V*V*V)*V)) ^ e))=U*(U*(V*V*V*(V*V*V)*V)) ^ (2*e+1):=by
   rw [show 2*e+1=e+e+1 by omega,Int.pow_succ,Int.pow_add]
   generalize (U*(V*V*V*(V*V*V)*V)) ^ e=K
   grind
  rwa [e1] at h
 have hh:=cg_half hW (4*e+2) (by omega)
 rw [show 4*e+2=(2*e+1)+(2*e+1) by omega,Int.pow_add] at hh
 generalize (U*(V*V*V*(V*V*V)*V)) ^ (2*e+1)=X at *
 have fin:∀ c:Int,cg X c->cg (V*(R*R)) (c*U):=fun c hc=>by
  have:=h1.trans ((cg.refl U).mul hc)
  rwa [Int.mul_comm U c] at this
 rcases hh with h | h
 ·have h':cg (X*X) (1*1):=h
  rcases cg_sq h' with h | h
  ·have:=fin _ h
   rw [Int.one_mul] at this
   exact .inl this
  ·have:=fin _ h
   rw [Int.neg_mul,Int.one_mul] at this
   exact .inr (.inl this)
 ·rcases cg_sq (h.trans iZ_sq.symm) with h | h
  ·exact .inr (.inr (.inl (fin _ h)))
  ·have:=fin _ h
   rw [Int.neg_mul] at this
   exact .inr (.inr (.inr this))
theorem ph_iF:ph iF=CP.i:=ph_fe (by decide)
section
variable {q:Nat} [NeZero q]
theorem rx1 {v R u i a:Fin q} (h:v*(R*R)=u) (ha:a=R ∨ a=-R):v*(a*a)=u:=by
 rcases ha with rfl | rfl <;> grind (splits:=0) -lia -linarith
theorem rx2 {v R u i a:Fin q} (hi:i*i=-1) (h:v*(R*R)=-u) (ha:a=R*i ∨ a=-(R*i)):v*(a*a)=u:=by
 rcases ha with rfl | rfl <;> grind (splits:=0) -lia -linarith
theorem rx3 {v R u i a:Fin q} (hi:i*i=-1) (h:v*(R*R)=-(i*u)) (ha:a=R*i ∨ a=-(R*i)):v*(a*a)=i*u:=by
 rcases ha with rfl | rfl <;> grind (splits:=0) -lia -linarith
end
theorem ph_ratR0 {x y:Fe} (h:ph x=0 ∨ ph y=0):ph (ratR x y)=0:=by
 unfold ratR
 rw [ph_mul,ph_mul,ph_mul]
 rcases h with h | h <;> rw [h] <;> grind (splits:=0) -lia -linarith
theorem rat_spec {x y:Fe} (hx:fOk x) (hy:fOk y):RatOf (ph x) (ph y) (ph (ratF x y).1) (ratF x y).2:=by
 have hR:fOk (ratR x y):=ratR_ok hx hy
 have hA:samF (mulF y (mulF (ratR x y) (ratR x y))) x=true ↔ ph y*(ph (ratR x y)*ph (ratR x y))=ph x:=by rw [ph_sam,ph_mul,ph_mul]
 have hB:samF (mulF y (mulF (ratR x y) (ratR x y))) (subF f0 x)=true ↔ ph y*(ph (ratR x y)*ph (ratR x y))=-ph x:=by
  rw [ph_sam,ph_mul,ph_mul,ph_sub hx,ph_f0]
  constructor <;> intro h <;> rw [h] <;> grind (splits:=0) -lia -linarith
 have hD:samF (mulF y (mulF (ratR x y) (ratR x y))) (mulF (subF f0 x) iF)=true ↔ ph y*(ph (ratR x y)*ph (ratR x y))=-(CP.i*ph x):=by
  rw [ph_sam,ph_mul,ph_mul,ph_mul,ph_sub hx,ph_f0,ph_iF]
  constructor <;> intro h <;> rw [h] <;> grind (splits:=0) -lia -linarith
 have hQ:ph (mulF (ratR x y) iF)=ph (ratR x y)*CP.i:=by rw [ph_mul,ph_iF]
 have oQ:fOk (mulF (ratR x y) iF):=mul_ok hR iF_ok
 have h0:ph x=0 ∨ ph y=0->ph (ratR x y)=0:=ph_ratR0
 have h4:ph x ≠ 0->ph y ≠ 0->ph y*(ph (ratR x y)*ph (ratR x y))=ph x ∨ ph y*(ph (ratR x y)*ph (ratR x y))=-ph x ∨ ph y*(ph (ratR x y)*ph (ratR x y))=CP.i*ph x ∨ ph y*(ph (ratR x y)*ph (ratR x y))=-(CP.i*ph x):=by
  intro gx gy
  have hU:¬ cg (fv x:Int) 0:=fun h=>gx (fn_eq0.2 (cg_zero.1 h))
  have hV:¬ cg (fv y:Int) 0:=fun h=>gy (fn_eq0.2 (cg_zero.1 h))
  have c3:cg (fv (mulF (mulF y y) y):Int) ((fv y:Int)*fv y*fv y):=(cg_fmul _ y).trans ((cg_fmul y y).mul (cg.refl _))
  have c7:cg (fv (mulF x (mulF (mulF (mulF (mulF y y) y) (mulF (mulF y y) y)) y)):Int) ((fv x:Int)*((fv y:Int)*fv y*fv y*((fv y:Int)*fv y*fv y)*fv y)) :=
   (cg_fmul x _).trans ((cg.refl _).mul ((cg_fmul _ y).trans (((cg_fmul _ _).trans (c3.mul c3)).mul (cg.refl _))))
  have cr:cg (fv (ratR x y):Int) ((fv x:Int)*((fv y:Int)*fv y*fv y)*((fv x:Int)*((fv y:Int)*fv y*fv y*((fv y:Int)*fv y*fv y)*fv y)) ^ expF 253 252) :=
   (cg_fmul _ _).trans (((cg_fmul x _).trans ((cg.refl _).mul c3)).mul ((cg_fpow _ 253 252).trans (c7.pow _)))
  have f:=rat_four exp8 hU hV cr
  have e1:fn (fv y*(fv (ratR x y)*fv (ratR x y)))=ph y*(ph (ratR x y)*ph (ratR x y)):=by rw [fn_mul,fn_mul]; rfl
  have e2:fn (iNQ*fv x)=CP.i*ph x:=by rw [fn_mul]; rfl
  have z1:((fv y:Int)*((fv (ratR x y):Int)*(fv (ratR x y):Int)))=((fv y*(fv (ratR x y)*fv (ratR x y)):Nat):Int):=by rw [Int.natCast_mul,Int.natCast_mul]
  have z2:iZ*(fv x:Int)=((iNQ*fv x:Nat):Int):=by rw [Int.natCast_mul]; rfl
  rw [z1,z2] at f
  rcases f with f | f | f | f
  ·exact .inl (e1.symm.trans (cg_fn f))
  ·exact .inr (.inl (e1.symm.trans (cg_fnN f)))
  ·exact .inr (.inr (.inl (e1.symm.trans ((cg_fn f).trans e2))))
  ·exact .inr (.inr (.inr (e1.symm.trans ((cg_fnN f).trans (by rw [e2])))))
 unfold ratF
 generalize samF (mulF y (mulF (ratR x y) (ratR x y))) x=A at *
 generalize samF (mulF y (mulF (ratR x y) (ratR x y))) (subF f0 x)=B at *
 generalize samF (mulF y (mulF (ratR x y) (ratR x y))) (mulF (subF f0 x) iF)=D at *
 generalize mulF (ratR x y) iF=Q at *
 generalize ratR x y=R at *
 have oC:fOk (cond (B || D) Q R):=by
  cases (B || D)
  ·exact hR
  ·exact oQ
 have hab:=ph_abs oC
 show RatOf (ph x) (ph y) (ph (absF (cond (B || D) Q R))) (A || B)
 rw [hab]
 have pm:=absQ_pm (ph (cond (B || D) Q R))
 have ev:=absQ_even (ph (cond (B || D) Q R))
 have z0:ph R=0->absQ (ph (cond (B || D) Q R))=0:=by
  intro h
  have:ph (cond (B || D) Q R)=0:=by
   cases (B || D)
   ·exact h
   ·show ph Q=0
    rw [hQ,h,Fin.zero_mul]
  rw [this]; rfl
 clear hab
 have hii:=CP.ii
 have hi0:=CP.i_ne
 have key:∀ {c d:Fin QP},ph x ≠ 0->c*ph x=d*ph x->c=d:=fun h e=>CP.can h e
 have one:(1:Fin QP)*ph x=ph x:=Fin.one_mul _
 refine ⟨ev,fun hb=>?_,fun hb hv=>?_,fun hb hu=>?_,fun hv=>z0 (h0 (.inr hv)),fun hu=>z0 (h0 (.inl hu))⟩
 ·-- a square
  cases B
  ·rw [Bool.or_false] at hb
   have h1:=hA.1 hb
   cases D
   ·exact rx1 (i:=CP.i) h1 pm
   ·have h2:=hD.1 rfl
    have hx0:ph x=0:=by
     by_cases gx:ph x=0
     ·exact gx
     ·exfalso
      have h3:CP.i*ph x=-1*ph x:=by
       rw [h1] at h2
       grind (splits:=0) -lia -linarith
      have h4:=key gx h3
      rw [h4] at hii
      have:(2:Fin QP)=0:=by grind (splits:=0) -lia -linarith
      exact CP.h2 this
    rw [z0 (h0 (.inl hx0)),hx0,Fin.zero_mul,Fin.mul_zero]
  ·have h1:=hB.1 rfl
   have pm':absQ (ph (cond (true || D) Q R))=ph R*CP.i ∨ absQ (ph (cond (true || D) Q R))=-(ph R*CP.i):=by
    rw [<-hQ]; exact pm
   exact rx2 hii h1 pm'
 ·-- none
  rw [Bool.or_eq_false_iff] at hb
  obtain ⟨rfl,rfl⟩:=hb
  by_cases gx:ph x=0
  ·rw [z0 (h0 (.inl gx)),gx]
   grind (splits:=0) -lia -linarith
  rcases h4 gx hv with f | f | f | f
  ·exact absurd (hA.2 f) (by simp)
  ·exact absurd (hB.2 f) (by simp)
  ·cases D
   ·exact rx1 (i:=CP.i) f pm
   ·have h2:=hD.1 rfl
    exfalso
    rw [f] at h2
    have h3:CP.i*ph x+CP.i*ph x=0:=by grind (splits:=0) -lia -linarith
    exact two_ne CP (CP.mul_ne hi0 gx) h3
  ·have hD':=hD.2 f
   subst hD'
   have pm':absQ (ph (cond (false || true) Q R))=ph R*CP.i ∨ absQ (ph (cond (false || true) Q R))=-(ph R*CP.i):=by
    rw [<-hQ]; exact pm
   exact rx3 hii f pm'
 ·rw [Bool.or_eq_false_iff] at hb
  obtain ⟨rfl,_⟩:=hb
  have:(false:Bool)=true:=hA.2 (by rw [h0 (.inl hu),hu]; grind (splits:=0) -lia -linarith)
  cases this
def ratQ (u v:Fin QP):Fin QP × Bool:=(ph (ratF (fe u.val) (fe v.val)).1,(ratF (fe u.val) (fe v.val)).2)
theorem ph_val (a:Fin QP):ph (fe a.val)=a:=by rw [ph_fe (QP_lt a),fn_val]
theorem ratQ_spec (u v:Fin QP):RatOf u v (ratQ u v).1 (ratQ u v).2:=by
 have:=rat_spec (fe_ok u.val) (fe_ok v.val)
 rwa [ph_val,ph_val] at this
theorem ratF_Q {x y:Fe} (hx:fOk x) (hy:fOk y):ph (ratF x y).1=(ratQ (ph x) (ph y)).1 /\ (ratF x y).2=(ratQ (ph x) (ph y)).2:=(rat_spec hx hy).uniq (ratQ_spec _ _)
def cO:Fin QP:=fn cON
def zQ (i x y z t:Fin QP):Fin QP:=i*((z+y)*(z - y))*(i*(x*y))*t
def encI (i x y z t:Fin QP):Fin QP :=
 absQ (cond (negQ (t*zQ i x y z t)) (i*((z+y)*(z - y))*cO) (i*(x*y)) *
  (z - cond (negQ (cond (negQ (t*zQ i x y z t)) (y*CP.i) x*zQ i x y z t)) (-(cond (negQ (t*zQ i x y z t)) (x*CP.i) y)) (cond (negQ (t*zQ i x y z t)) (x*CP.i) y)))
def encQ (x y z t:Fin QP):Fin QP:=encI (ratQ 1 ((z+y)*(z - y)*(x*y*(x*y)))).1 x y z t
theorem zero_sub_Q (a:Fin QP):0 - a=-a:=by grind (splits:=0) -lia -linarith
theorem ph_cond (b:Bool) (x y:Fe):ph (cond b x y)=cond b (ph x) (ph y):=by cases b <;> rfl
theorem ph_bytes {p:Pt} (hp:pOk p):ph (bytesF p)=encQ (ph p.x) (ph p.y) (ph p.z) (ph p.t):=by
 have k1:=u1E_ok hp
 have k2:=u2E_ok hp
 have h1:ph (u1E p)=(ph p.z+ph p.y)*(ph p.z - ph p.y):=by unfold u1E; rw [ph_mul,ph_add,ph_sub hp.2.1]
 have h2:ph (u2E p)=ph p.x*ph p.y:=by unfold u2E; rw [ph_mul]
 have h3:ph (invE p)=(ratQ 1 ((ph p.z+ph p.y)*(ph p.z - ph p.y)*(ph p.x*ph p.y*(ph p.x*ph p.y)))).1:=by
  unfold invE
  rw [(ratF_Q (fe_ok 1) (mul_ok k1 (mul_ok k2 k2))).1,ph_1,ph_mul,ph_mul,h1,h2]
 unfold encQ
 rw [<-h3]
 have h4:ph (ziE p)=zQ (ph (invE p)) (ph p.x) (ph p.y) (ph p.z) (ph p.t):=by
  unfold ziE zQ
  rw [ph_mul,ph_mul,ph_mul,ph_mul,h1,h2]
 have h5:rotE p=negQ (ph p.t*zQ (ph (invE p)) (ph p.x) (ph p.y) (ph p.z) (ph p.t)):=by
  unfold rotE
  rw [ph_odd,ph_mul,h4]
 have hc:ph (fe cON)=cO:=ph_fe (by decide)
 unfold encI bytesF
 rw [ph_abs (mul_ok (denE_ok hp) (sub_ok hp.2.2.1)),ph_mul,ph_sub (y2E_ok hp)]
 unfold y2E
 rw [ph_cond,ph_sub (yE_ok hp),ph_f0,zero_sub_Q,ph_odd,ph_mul,h4]
 unfold xE yE denE
 rw [ph_cond,ph_cond,ph_cond,ph_mul,ph_mul,ph_mul,ph_mul,ph_mul,h1,h2,ph_iF,hc,h5]
section
variable {x y:Nat} (hx:x < P25) (hy:y < P25)
end
section
variable {q:Nat} [NeZero q]
theorem es1 {i i' x y z:Fin q} (hi:i=i'*(z*z*z) ∨ i=-(i'*(z*z*z))):i'*((z+y*z)*(z - y*z))*(i'*(x*z*(y*z)))*(x*y*z)*z=i*((1+y)*(1 - y))*(i*(x*y))*(x*y):=by
 rcases hi with rfl | rfl <;> grind (splits:=0) -lia -linarith
theorem es2 {a b Z Z' z:Fin q} (h:Z'*z=Z):a*z*Z'=a*Z /\ a*b*z*Z'=a*b*Z /\ a*z*b*Z'=a*b*Z:=by
 subst h
 refine ⟨?_,?_,?_⟩ <;> grind (splits:=0) -lia -linarith
theorem es3 {i i' x y z w w':Fin q} (hi:i=i'*(z*z*z) ∨ i=-(i'*(z*z*z))) (hw:w'=w*z):i'*(x*z*(y*z))*(z - w')=i*(x*y)*(1 - w) ∨ i'*(x*z*(y*z))*(z - w')=-(i*(x*y)*(1 - w)):=by
 subst hw
 rcases hi with rfl | rfl
 ·left; grind (splits:=0) -lia -linarith
 ·right; grind (splits:=0) -lia -linarith
theorem es4 {i i' y z w w' c:Fin q} (hi:i=i'*(z*z*z) ∨ i=-(i'*(z*z*z))) (hw:w'=w*z):i'*((z+y*z)*(z - y*z))*c*(z - w')=i*((1+y)*(1 - y))*c*(1 - w) ∨ i'*((z+y*z)*(z - y*z))*c*(z - w')=-(i*((1+y)*(1 - y))*c*(1 - w)):=by
 subst hw
 rcases hi with rfl | rfl
 ·left; grind (splits:=0) -lia -linarith
 ·right; grind (splits:=0) -lia -linarith
theorem es5 {x y z:Fin q}:(z+y*z)*(z - y*z)*(x*z*(y*z)*(x*z*(y*z)))=z*z*z*(z*z*z)*((1+y)*(1 - y)*(x*y*(x*y))):=by grind (splits:=0) -lia -linarith
theorem es6 {x z:Fin q}:-(x*z)=-x*z:=by grind (splits:=0) -lia -linarith
theorem es7 {x z i:Fin q}:x*z*i=x*i*z:=by grind (splits:=0) -lia -linarith
theorem es8 {v r z3 a u:Fin q} (h:a=r*z3 ∨ a=-(r*z3)) (e:z3*z3*v*(r*r)=u):v*(a*a)=u:=by
 subst e
 rcases h with rfl | rfl <;> grind (splits:=0) -lia -linarith
end
theorem absQ_pmeq {a b:Fin QP} (h:a=b ∨ a=-b):absQ a=absQ b:=by
 rcases h with h | h
 ·rw [h]
 ·rw [h,absQ_neg]
theorem encI_scale {i i' x y z:Fin QP} (hi:i=i'*(z*z*z) ∨ i=-(i'*(z*z*z))):encI i' (x*z) (y*z) z (x*y*z)=encI i x y 1 (x*y):=by
 have hZ:zQ i' (x*z) (y*z) z (x*y*z)*z=zQ i x y 1 (x*y):=es1 hi
 unfold encI
 generalize zQ i' (x*z) (y*z) z (x*y*z)=Z' at *
 generalize zQ i x y 1 (x*y)=Z at *
 rw [(es2 (a:=x) (b:=y) hZ).2.1]
 cases negQ (x*y*Z)
 ·rw [cond_false,cond_false,cond_false,cond_false,cond_false,cond_false,(es2 (a:=x) (b:=y) hZ).1]
  apply absQ_pmeq
  cases negQ (x*Z)
  ·rw [cond_false,cond_false]; exact es3 hi rfl
  ·rw [cond_true,cond_true]; exact es3 hi es6
 ·rw [cond_true,cond_true,cond_true,cond_true,cond_true,cond_true,(es2 (a:=y) (b:=CP.i) hZ).2.2]
  apply absQ_pmeq
  cases negQ (y*CP.i*Z)
  ·rw [cond_false,cond_false]; exact es4 hi es7
  ·rw [cond_true,cond_true]; exact es4 hi (by rw [es7,es6])
theorem encQ_scale {x y z:Fin QP} (hz:z ≠ 0):encQ (x*z) (y*z) z (x*y*z)=encQ x y 1 (x*y):=by
 unfold encQ
 apply encI_scale
 rw [es5]
 have h3:z*z*z ≠ 0:=CP.mul_ne (CP.mul_ne hz hz) hz
 have s:=ratQ_spec 1 (z*z*z*(z*z*z)*((1+y)*(1 - y)*(x*y*(x*y))))
 have s':=ratQ_spec 1 ((1+y)*(1 - y)*(x*y*(x*y)))
 generalize ratQ 1 (z*z*z*(z*z*z)*((1+y)*(1 - y)*(x*y*(x*y))))=R at *
 generalize ratQ 1 ((1+y)*(1 - y)*(x*y*(x*y)))=R' at *
 generalize (1+y)*(1 - y)*(x*y*(x*y))=v at *
 generalize z*z*z=z3 at *
 have pm:=absQ_pm (R.1*z3)
 have k:RatOf 1 v (absQ (R.1*z3)) R.2:=by
  refine ⟨absQ_even _,fun h=>es8 pm (s.yes h),fun h hv=>?_,s.nz,fun h=>?_,fun h=>(CP.h1 h).elim⟩
  ·have:=s.no h (CP.mul_ne (CP.mul_ne h3 h3) hv)
   exact es8 pm this
  ·have:=s.zero (by rw [h,Fin.mul_zero])
   rw [this,Fin.zero_mul]; rfl
 rw [(s'.uniq k).1]
 exact pm
def encG (g:CP.G):Fin QP:=encQ g.1.1 g.1.2 1 (g.1.1*g.1.2)
theorem PT_bytes {p:Pt} {g:CP.G} (h:PT p g):ph (bytesF p)=encG g:=by
 rw [ph_bytes h.ok,h.x,h.y,h.t]
 exact encQ_scale h.z
section
variable {q:Nat} [NeZero q]
theorem Cur.d0 (C:Cur q):C.d ≠ 0:=fun h=>C.h1 (C.nsq 0 1 (by rw [h]; grind (splits:=0) -lia -linarith))
theorem Cur.d1 (C:Cur q):C.d - 1 ≠ 0:=fun h=>C.h1 (C.nsq 1 1 (by
 have:C.d=1:=by grind (splits:=0) -lia -linarith
 rw [this]; grind (splits:=0) -lia -linarith))
theorem Cur.dm1 (C:Cur q):1+C.d ≠ 0:=fun h=>C.h1 (C.nsq C.i 1 (by
 have:C.d=-1:=by grind (splits:=0) -lia -linarith
 rw [this,C.ii]; grind (splits:=0) -lia -linarith))
theorem hm1 {d r v U n:Fin q} (hv:v=(-1 - r*d)*(r+d)) (hU:U=(r+1)*(1 - d*d)) (hn:n=-1*(r - 1)*((d - 1)*(d - 1)) - v) :
  (v+U)*(v+U)+d*((v - U)*(v - U))=(1+d)*(n*n):=by
 subst hv hU hn
 grind (splits:=0) -lia -linarith
theorem hm2 {d r v U n:Fin q} (hv:v=(-1 - r*d)*(r+d)) (hU:U=r*((r+1)*(1 - d*d))) (hn:n=r*(r - 1)*((d - 1)*(d - 1)) - v) :
  (v+U)*(v+U)+d*((v - U)*(v - U))=(1+d)*(n*n):=by
 subst hv hU hn
 grind (splits:=0) -lia -linarith
theorem hm3 {d n k v W m s D:Fin q} (hk:k*k=-1 - d) (hD:D=n*k) (e:v*v*(W*W+d*(m*m))=(1+d)*(n*n)):D*D=-(v*v*(W*W+d*(m*m))):=by
 subst hD
 rw [e]
 clear e
 grind (splits:=0) -lia -linarith
theorem hm4 {d v W m s D x y:Fin q} (hD:s=0 ∨ D*D=-(v*v*(W*W+d*(m*m)))) (hW:W=1+s*s) (hm:m=1 - s*s) (hx:x*D=(s+s)*v) (hy:y*W=m) :
  (y*y - x*x)*(D*D*(W*W))=(1+d*x*x*y*y)*(D*D*(W*W)):=by
 have e1:(y*y - x*x)*(D*D*(W*W))=(y*W)*(y*W)*(D*D) - (x*D)*(x*D)*(W*W):=by clear hD hW hm hx hy; grind (splits:=0) -lia -linarith
 have e2:(1+d*x*x*y*y)*(D*D*(W*W))=D*D*(W*W)+d*((x*D)*(x*D))*((y*W)*(y*W)):=by clear e1 hD hW hm hx hy; grind (splits:=0) -lia -linarith
 rw [e1,e2,hx,hy]
 clear e1 e2 hx hy
 rcases hD with rfl | hD
 ·subst hW hm
  grind (splits:=0) -lia -linarith
 ·rw [hD]
  clear hD
  subst hW hm
  grind (splits:=0) -lia -linarith
theorem hm5 {v s U W m:Fin q} (hU:v*(s*s)=U) (hW:W=1+s*s) (hm:m=1 - s*s) (d:Fin q):v*v*(W*W+d*(m*m))=(v+U)*(v+U)+d*((v - U)*(v - U)):=by
 subst hU hW hm
 grind (splits:=0) -lia -linarith
theorem Cur.half_main (C:Cur q) {r u v s c n:Fin q} (hv:v=(-1 - r*C.d)*(r+C.d)) (hu:u=(r+1)*(1 - C.d*C.d)) (hn:n=c*(r - 1)*((C.d - 1)*(C.d - 1)) - v)
  (hc:(c=-1 /\ v*(s*s)=u) ∨ (c=r /\ (v ≠ 0->v*(s*s)=r*u))) (v0:v ≠ 0):v*v*((1+s*s)*(1+s*s)+C.d*((1 - s*s)*(1 - s*s)))=(1+C.d)*(n*n):=by
 rcases hc with ⟨h1,h2⟩ | ⟨h1,h2⟩
 ·rw [hm5 rfl rfl rfl C.d]
  exact hm1 hv (by rw [h2,hu]) (by rw [hn,h1])
 ·rw [hm5 rfl rfl rfl C.d]
  exact hm2 hv (by rw [h2 v0,hu]) (by rw [hn,h1])
theorem Cur.half (C:Cur q) {r u v s c n k:Fin q} (hk:k*k=-1 - C.d) (hv:v=(-1 - r*C.d)*(r+C.d)) (hu:u=(r+1)*(1 - C.d*C.d)) (hn:n=c*(r - 1)*((C.d - 1)*(C.d - 1)) - v)
  (hc:(c=-1 /\ v*(s*s)=u) ∨ (c=r /\ (v ≠ 0->v*(s*s)=r*u))) (hz:v=0->s=0) :
  n*k ≠ 0 /\ 1+s*s ≠ 0 /\ ∀ x y:Fin q,x*(n*k)=(s+s)*v->y*(1+s*s)=1 - s*s->On C.d x y:=by
 have k0:k ≠ 0:=fun h=>C.dm1 (by rw [h] at hk; grind (splits:=0) -lia -linarith)
 have hii:=C.ii
 have main:=C.half_main hv hu hn hc
 have n0:n ≠ 0:=by
  intro h0
  by_cases v0:v=0
  ·rw [h0,v0] at hn
   have e:c*(r - 1)*((C.d - 1)*(C.d - 1))=0:=by clear hc hz main hu; grind (splits:=0) -lia -linarith
   have hr:(-1 - r*C.d)=0 ∨ r+C.d=0:=C.noz _ _ (by rw [<-hv,v0])
   have hc':c=-1 ∨ c=r:=by
    rcases hc with ⟨h1,_⟩ | ⟨h1,_⟩
    ·exact .inl h1
    ·exact .inr h1
   clear hc main hu hn hv hz
   rcases C.noz _ _ e with e | e
   ·rcases C.noz _ _ e with e | e
    ·rcases hc' with h1 | h1
     ·rw [e] at h1
      exact C.h1 (by clear hr e; grind (splits:=0) -lia -linarith)
     ·rw [e] at h1
      subst h1
      rcases hr with hr | hr
      ·exact C.h1 (by clear e; grind (splits:=0) -lia -linarith)
      ·exact C.d0 (by clear e; grind (splits:=0) -lia -linarith)
    ·have h1:r=1:=by clear hr hc' hk; grind (splits:=0) -lia -linarith
     subst h1
     rcases hr with hr | hr
     ·exact C.dm1 (by clear e hc' hk; grind (splits:=0) -lia -linarith)
     ·exact C.dm1 hr
   ·rcases C.noz _ _ e with e | e <;> exact C.d1 e
  ·have m:=main v0
   rw [h0] at m
   have hs:(v*(1+s*s))*(v*(1+s*s))=C.d*((C.i*(v*(1 - s*s)))*(C.i*(v*(1 - s*s)))):=by
    clear hc hz main hu hn hv hk
    grind (splits:=0) -lia -linarith
   have h1:=C.nsq _ _ hs
   rw [h1] at hs
   have h2:=(C.noz _ _ h1).resolve_left C.i_ne
   have h3:v*(1+s*s)=0:=by
    rcases C.noz _ _ (hs.trans (by grind (splits:=0) -lia -linarith):_=(0:Fin q)) with h | h <;> exact h
   have h4:2*v=0:=by clear m hs h1 hc main hn hv hu hk hz; grind (splits:=0) -lia -linarith
   exact (C.noz _ _ h4).elim C.h2 v0
 have w0:1+s*s ≠ 0:=by
  intro h0
  by_cases v0:v=0
  ·rw [hz v0] at h0
   exact C.h1 (by clear hc hz main; grind (splits:=0) -lia -linarith)
  ·have m:=main v0
   rw [h0] at m
   have hs:(C.i*(k*n))*(C.i*(k*n))=C.d*((v*(1 - s*s))*(v*(1 - s*s))):=by
    have e1:(C.i*(k*n))*(C.i*(k*n))=(C.i*C.i)*(k*k)*(n*n):=by clear m hc hz main hu hn hv hk h0 hii; grind (splits:=0) -lia -linarith
    rw [e1,hii,hk]
    clear e1 hc hz main hu hn hv hk h0 hii
    grind (splits:=0) -lia -linarith
   have h1:=C.nsq _ _ hs
   have h2:=(C.noz _ _ h1).resolve_left v0
   exact C.h2 (by clear m hs h1 hc main hn hv hu hk hz; grind (splits:=0) -lia -linarith)
 refine ⟨C.mul_ne n0 k0,w0,fun x y hx hy=>?_⟩
 have hD:s=0 ∨ (n*k)*(n*k)=-(v*v*((1+s*s)*(1+s*s)+C.d*((1 - s*s)*(1 - s*s)))):=by
  by_cases v0:v=0
  ·exact .inl (hz v0)
  ·exact .inr (hm3 (s:=s) hk rfl (main v0))
 have D0:=C.mul_ne n0 k0
 exact C.can (C.mul_ne (C.mul_ne D0 D0) (C.mul_ne w0 w0)) (hm4 hD rfl rfl hx hy)
theorem hm6 {d k n v y W m i:Fin q} (hk:k*k=-1 - d) (hy:y*W=m) (h:v*v*(W*W+d*(m*m))=(1+d)*(n*n)) (hi:W*v*i=1):k*n*i*(k*n*i)=-(1+d*(y*y)):=by
 have e1:k*n*i*(k*n*i)=k*k*(n*n)*(i*i):=by clear hk hy h hi; grind (splits:=0) -lia -linarith
 have e2:(-1 - d)*(n*n)=-((1+d)*(n*n)):=by clear hk hy h hi e1; grind (splits:=0) -lia -linarith
 have e3:-(v*v*(W*W+d*(m*m)))*(i*i)=-(1+d*(y*y))*((W*v*i)*(W*v*i)):=by
  rw [<-hy]; clear hk hy h hi e1 e2; grind (splits:=0) -lia -linarith
 rw [e1,hk,e2,<-h,e3,hi,Fin.mul_one,Fin.mul_one]
end
def hrQ (t:Fin QP):Fin QP:=CP.i*(t*t)
def hvQ (t:Fin QP):Fin QP:=(-1 - hrQ t*CP.d)*(hrQ t+CP.d)
def huQ (t:Fin QP):Fin QP:=(hrQ t+1)*(1 - CP.d*CP.d)
def hbQ (t:Fin QP):Bool:=(ratQ (huQ t) (hvQ t)).2
def h0Q (t:Fin QP):Fin QP:=(ratQ (huQ t) (hvQ t)).1
def hsQ (t:Fin QP):Fin QP:=cond (hbQ t) (h0Q t) (-absQ (h0Q t*t))
def hcQ (t:Fin QP):Fin QP:=cond (hbQ t) (-1) (hrQ t)
def hnQ (t:Fin QP):Fin QP:=hcQ t*(hrQ t - 1)*((CP.d - 1)*(CP.d - 1)) - hvQ t
def hkQ:Fin QP:=fn cAN
theorem hkQ_sq:hkQ*hkQ=-1 - CP.d:=by
 have:fn (cAN*cAN+1+dQN)=0:=fn_eq0.2 (by decide +kernel)
 rw [fn_add,fn_add,fn_mul,fn_one] at this
 have e:fn cAN*fn cAN+1+CP.d=0:=this
 show fn cAN*fn cAN=_
 generalize CP.d=d at *
 grind (splits:=0) -lia -linarith
theorem cM_Q:fn cMN=1 - CP.d*CP.d:=by
 have:fn (cMN+dQN*dQN)=fn 1:=fn_eq.2 (by decide +kernel)
 rw [fn_add,fn_mul,fn_one] at this
 have e:fn cMN+CP.d*CP.d=1:=this
 generalize CP.d=d at *
 grind (splits:=0) -lia -linarith
theorem cD_Q:fn cDN=(CP.d - 1)*(CP.d - 1):=by
 have:fn (cDN+(dQN+dQN))=fn (dQN*dQN+1):=fn_eq.2 (by decide +kernel)
 rw [fn_add,fn_add,fn_add,fn_mul,fn_one] at this
 have e:fn cDN+(CP.d+CP.d)=CP.d*CP.d+1:=this
 generalize CP.d=d at *
 grind (splits:=0) -lia -linarith
section
variable {q:Nat} [NeZero q]
theorem hb1 {v u s a t r i:Fin q} (ha:a=s*t ∨ a=-(s*t)) (hr:r=i*(t*t)) (h:v*(s*s)=i*u):v*(-a*-a)=r*u:=by
 have e:v*(-a*-a)=v*(s*s)*(t*t):=by
  rcases ha with rfl | rfl <;> clear h hr <;> grind (splits:=0) -lia -linarith
 rw [e,h,hr]
 clear e h hr ha
 grind (splits:=0) -lia -linarith
theorem gx1 {X D i W:Fin q} (h:D*i=1):X*i*D=X /\ X*W=X*i*(D*W):=by
 constructor <;> grind (splits:=0) -lia -linarith
theorem gx2 {X D i Y W j:Fin q} (h:D*i=1) (k:W*j=1):X*W=X*i*(D*W) /\ Y*D=Y*j*(D*W) /\ X*Y=X*i*(Y*j)*(D*W):=by
 refine ⟨?_,?_,?_⟩
 ·clear k; grind (splits:=0) -lia -linarith
 ·clear h; grind (splits:=0) -lia -linarith
 ·have e:X*i*(Y*j)*(D*W)=X*Y*(D*i)*(W*j):=by clear h k; grind (splits:=0) -lia -linarith
  rw [e,h,k,Fin.mul_one,Fin.mul_one]
end
theorem half_case (t:Fin QP):((hcQ t=-1 /\ hvQ t*(hsQ t*hsQ t)=huQ t) ∨ (hcQ t=hrQ t /\ (hvQ t ≠ 0->hvQ t*(hsQ t*hsQ t)=hrQ t*huQ t))) /\ (hvQ t=0->hsQ t=0):=by
 have s:=ratQ_spec (huQ t) (hvQ t)
 have e0:(ratQ (huQ t) (hvQ t)).1=h0Q t:=rfl
 have eb:(ratQ (huQ t) (hvQ t)).2=hbQ t:=rfl
 rw [e0,eb] at s
 constructor
 ·have hs:hsQ t=cond (hbQ t) (h0Q t) (-absQ (h0Q t*t)):=rfl
  have hc:hcQ t=cond (hbQ t) (-1) (hrQ t):=rfl
  cases hb:hbQ t
  ·right
   rw [hb,cond_false] at hs hc
   refine ⟨hc,fun hv=>?_⟩
   rw [hs]
   exact hb1 (absQ_pm _) rfl (s.no hb hv)
  ·left
   rw [hb,cond_true] at hs hc
   exact ⟨hc,by rw [hs]; exact s.yes hb⟩
 ·intro hv
  have h0:=s.zero hv
  unfold hsQ
  rw [h0,Fin.zero_mul]
  cases hbQ t
  ·show -absQ 0=0
   have:absQ 0=0:=rfl
   rw [this]; exact neg_zeroQ
  ·rfl
theorem half_Q (t:Fin QP):hnQ t*hkQ ≠ 0 /\ 1+hsQ t*hsQ t ≠ 0 /\ ∀ x y:Fin QP,x*(hnQ t*hkQ)=(hsQ t+hsQ t)*hvQ t->y*(1+hsQ t*hsQ t)=1 - hsQ t*hsQ t->On CP.d x y :=
 CP.half (r:=hrQ t) (u:=huQ t) (c:=hcQ t) hkQ_sq rfl rfl rfl (half_case t).1 (half_case t).2
def gH (t:Fin QP):CP.G:=⟨((hsQ t+hsQ t)*hvQ t*invQ (hnQ t*hkQ),(1 - hsQ t*hsQ t)*invQ (1+hsQ t*hsQ t)),
 (half_Q t).2.2 _ _ (gx1 (W:=0) (inv_Q _ (half_Q t).1)).1 (gx1 (W:=0) (inv_Q _ (half_Q t).2.1)).1⟩
set_option linter.unusedSectionVars false
section
variable {t:Fe} (ht:fOk t)
include ht
theorem rH_ok:fOk (rH t):=mul_ok iF_ok (mul_ok ht ht)
omit ht in
theorem ph_rH:ph (rH t)=hrQ (ph t):=by
 unfold rH hrQ
 rw [ph_mul,ph_mul,ph_iF]
theorem vH_ok:fOk (vH t):=mul_ok (sub_ok (sub_ok f0_ok)) (add_ok (rH_ok ht) (fe_ok _))
theorem ph_vH:ph (vH t)=hvQ (ph t):=by
 unfold vH hvQ
 rw [ph_mul,ph_sub (mul_ok (rH_ok ht) dF_ok),ph_sub (fe_ok 1),ph_mul,ph_add,ph_rH,ph_f0,ph_1,ph_d,zero_sub_Q]
theorem uH_ok:fOk (uH t):=mul_ok (add_ok (rH_ok ht) (fe_ok 1)) (fe_ok _)
theorem ph_uH:ph (uH t)=huQ (ph t):=by
 have:ph (fe cMN)=fn cMN:=ph_fe (by decide)
 unfold uH huQ
 rw [ph_mul,ph_add,ph_rH,ph_1,this,cM_Q]
theorem sqH_Q:sqH t=hbQ (ph t):=by
 unfold sqH hbQ
 rw [(ratF_Q (uH_ok ht) (vH_ok ht)).2,ph_uH ht,ph_vH ht]
theorem s0_Q:ph (ratF (uH t) (vH t)).1=h0Q (ph t):=by
 unfold h0Q
 rw [(ratF_Q (uH_ok ht) (vH_ok ht)).1,ph_uH ht,ph_vH ht]
theorem s0_ok:fOk (ratF (uH t) (vH t)).1:=rat_okE (uH_ok ht) (vH_ok ht)
theorem sH_ok:fOk (sH t):=fOk_cond (s0_ok ht) (sub_ok f0_ok)
theorem ph_sH:ph (sH t)=hsQ (ph t):=by
 have h:=mul_ok (s0_ok ht) ht
 unfold sH hsQ
 rw [ph_cond,ph_sub (abs_okE h),ph_abs h,ph_mul,s0_Q ht,sqH_Q ht,ph_f0,zero_sub_Q]
theorem cH_ok:fOk (cH t):=fOk_cond (sub_ok f0_ok) (rH_ok ht)
theorem ph_cH:ph (cH t)=hcQ (ph t):=by
 unfold cH hcQ
 rw [ph_cond,ph_sub (fe_ok 1),ph_rH,sqH_Q ht,ph_f0,ph_1,zero_sub_Q]
theorem nH_ok:fOk (nH t):=sub_ok (mul_ok (mul_ok (cH_ok ht) (sub_ok (rH_ok ht))) (fe_ok _))
theorem ph_nH:ph (nH t)=hnQ (ph t):=by
 have:ph (fe cDN)=fn cDN:=ph_fe (by decide)
 unfold nH hnQ
 rw [ph_sub (vH_ok ht),ph_mul,ph_mul,ph_cH ht,ph_sub (fe_ok 1),ph_rH,ph_vH ht,ph_1,this,cD_Q]
theorem w0H_ok:fOk (w0H t):=mul_ok (add_ok (sH_ok ht) (sH_ok ht)) (vH_ok ht)
theorem ph_w0H:ph (w0H t)=(hsQ (ph t)+hsQ (ph t))*hvQ (ph t):=by
 unfold w0H
 rw [ph_mul,ph_add,ph_sH ht,ph_vH ht]
theorem w1H_ok:fOk (w1H t):=mul_ok (nH_ok ht) (fe_ok _)
theorem ph_w1H:ph (w1H t)=hnQ (ph t)*hkQ:=by
 have:ph (fe cAN)=hkQ:=ph_fe (by decide)
 unfold w1H
 rw [ph_mul,ph_nH ht,this]
omit ht in
theorem w2H_ok:fOk (w2H t):=sub_ok (fe_ok 1)
theorem ph_w2H:ph (w2H t)=1 - hsQ (ph t)*hsQ (ph t):=by
 unfold w2H
 rw [ph_sub (mul_ok (sH_ok ht) (sH_ok ht)),ph_mul,ph_sH ht,ph_1]
theorem w3H_ok:fOk (w3H t):=add_ok (fe_ok 1) (mul_ok (sH_ok ht) (sH_ok ht))
theorem ph_w3H:ph (w3H t)=1+hsQ (ph t)*hsQ (ph t):=by
 unfold w3H
 rw [ph_add,ph_mul,ph_sH ht,ph_1]
theorem half_okF:pOk (halfF t):=⟨mul_ok (w0H_ok ht) (w3H_ok ht),mul_ok (w2H_ok) (w1H_ok ht),mul_ok (w1H_ok ht) (w3H_ok ht),mul_ok (w0H_ok ht) (w2H_ok)⟩
theorem PT_half:PT (halfF t) (gH (ph t)):=by
 have k1:=inv_Q _ (half_Q (ph t)).1
 have k2:=inv_Q _ (half_Q (ph t)).2.1
 have n0:=CP.mul_ne (half_Q (ph t)).1 (half_Q (ph t)).2.1
 have e0:=ph_w0H ht
 have e1:=ph_w1H ht
 have e2:=ph_w2H ht
 have e3:=ph_w3H ht
 refine ⟨half_okF ht,?_,?_,?_,?_⟩
 ·show ph (mulF _ _) ≠ 0
  rw [ph_mul,e1,e3]; exact n0
 ·show ph (mulF _ _)=_*ph (mulF _ _)
  rw [ph_mul,ph_mul,e0,e1,e3]; exact (gx2 (Y:=0) k1 k2).1
 ·show ph (mulF _ _)=_*ph (mulF _ _)
  rw [ph_mul,ph_mul,e2,e1,e3]; exact (gx2 (X:=0) k1 k2).2.1
 ·show ph (mulF _ _)=_*_*ph (mulF _ _)
  rw [ph_mul,ph_mul,e0,e2,e1,e3]; exact (gx2 k1 k2).2.2
end
section
variable {t:Nat}
end
end Go.Eng
