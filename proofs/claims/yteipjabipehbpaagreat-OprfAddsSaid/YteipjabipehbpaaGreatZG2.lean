import Derived.Test.YteipjabipehbpaaGreatZC4
import Derived.Test.YteipjabipehbpaaGreatZG1
namespace Go.Eng
set_option linter.unusedVariables false
def ph (x:Fe):Fin QP:=fn (fv x)
theorem ph_mul (x y:Fe):ph (mulF x y)=ph x*ph y:=by
 unfold ph
 rw [<-fn_mul,fn_eq]; exact mul_mod x y
theorem ph_add (x y:Fe):ph (addF x y)=ph x+ph y:=by
 unfold ph
 rw [<-fn_add,fn_eq]; exact add_mod x y
theorem ph_sub {x y:Fe} (hy:fOk y):ph (subF x y)=ph x - ph y:=fn_sub (sub_mod (x:=x) hy)
theorem ph_fe {n:Nat} (h:n < P25):ph (fe n)=fn n:=by
 unfold ph
 rw [fv_fe (Nat.lt_trans h (by decide))]
theorem ph_sam {x y:Fe}:samF x y=true ↔ ph x=ph y:=by
 unfold ph samF
 rw [fn_eq]
 constructor
 ·intro h; exact Nat.eq_of_beq_eq_true h
 ·intro h; rw [h]; exact Nat.beq_refl _
theorem ph_d:ph dF=CP.d:=ph_fe (by decide)
theorem ph_f0:ph f0=0:=fn_zero
theorem ph_0:ph (fe 0)=0:=(ph_fe (by decide)).trans fn_zero
theorem ph_1:ph (fe 1)=1:=ph_fe (by decide)
structure PT (p:Pt) (g:CP.G):Prop where
 ok:pOk p
 z:ph p.z ≠ 0
 x:ph p.x=g.1.1*ph p.z
 y:ph p.y=g.1.2*ph p.z
 t:ph p.t=g.1.1*g.1.2*ph p.z
section
variable {q:Nat} [NeZero q]
theorem ag1 {x1 y1 x2 y2 z1 z2 X G d p E:Fin q} (hX:X*p=x1*y2+x2*y1) (hG:G=(z1+z1)*z2*p)
  (hE:E=(y1*z1+x1*z1)*(y2*z2+x2*z2) - (y1*z1 - x1*z1)*(y2*z2 - x2*z2)):E=X*G:=by
 subst hG hE
 grind (splits:=0) -lia -linarith
theorem ag2 {x1 y1 x2 y2 z1 z2 Y F d m H:Fin q} (hY:Y*m=y1*y2+x1*x2) (hF:F=(z1+z1)*z2*m)
  (hH:H=(y1*z1+x1*z1)*(y2*z2+x2*z2)+(y1*z1 - x1*z1)*(y2*z2 - x2*z2)):H=Y*F:=by
 subst hF hH
 grind (splits:=0) -lia -linarith
theorem ag3 {x1 y1 x2 y2 z1 z2 d p G:Fin q} (hp:p=1+d*x1*y1*x2*y2) (hG:G=(z1+z1)*z2+x1*y1*z1*(d+d)*(x2*y2*z2)):G=(z1+z1)*z2*p:=by
 subst hp hG
 grind (splits:=0) -lia -linarith
theorem ag4 {x1 y1 x2 y2 z1 z2 d m F:Fin q} (hm:m=1 - d*x1*y1*x2*y2) (hF:F=(z1+z1)*z2 - x1*y1*z1*(d+d)*(x2*y2*z2)):F=(z1+z1)*z2*m:=by
 subst hm hF
 grind (splits:=0) -lia -linarith
theorem ag5 {E F G H X Y:Fin q} (hE:E=X*G) (hH:H=Y*F):E*F=X*(F*G) /\ G*H=Y*(F*G) /\ E*H=X*Y*(F*G):=by
 subst hE hH
 refine ⟨?_,?_,?_⟩ <;> grind (splits:=0) -lia -linarith
theorem two_ne (C:Cur q) {z:Fin q} (hz:z ≠ 0):z+z ≠ 0:=fun h=>by
 have h:2*z=0:=by grind (splits:=0) -lia -linarith
 exact (C.noz _ _ h).elim C.h2 hz
theorem dg1 {x y z X p G E:Fin q} (hX:X*p=x*y+x*y) (hG:G=-(p*(z*z))) (hE:E=x*z*(x*z)+y*z*(y*z) - (x*z+y*z)*(x*z+y*z)):E=X*G:=by
 subst hG hE
 grind (splits:=0) -lia -linarith
theorem dg2 {x y z Y m F H:Fin q} (hY:Y*m=y*y+x*x) (hF:F=m*(z*z)) (hH:H=x*z*(x*z)+y*z*(y*z)):H=Y*F:=by
 subst hF hH
 grind (splits:=0) -lia -linarith
theorem dg3 {x y z d p:Fin q} (o:On d x y) (hp:p=1+d*x*y*x*y):x*z*(x*z) - y*z*(y*z)=-(p*(z*z)):=by
 unfold On at o
 subst hp
 grind (splits:=0) -lia -linarith
theorem dg4 {x y z d m:Fin q} (o:On d x y) (hm:m=1 - d*x*y*x*y):z*z+z*z+(x*z*(x*z) - y*z*(y*z))=m*(z*z):=by
 unfold On at o
 subst hm
 grind (splits:=0) -lia -linarith
end
theorem PT_add {p q:Pt} {g h:CP.G} (hp:PT p g) (hq:PT q h):PT (addP p q d2F) (CP.add g h):=by
 have o1:=hp.ok
 have o2:=hq.ok
 have hX:=CP.ad_x g.2 h.2
 have hY:=CP.ad_y g.2 h.2
 have p0:=CP.dp_ne g.2 h.2
 have m0:=CP.dm_ne g.2 h.2
 have eA:ph (mulF (subF p.y p.x) (subF q.y q.x))=(g.1.2*ph p.z - g.1.1*ph p.z)*(h.1.2*ph q.z - h.1.1*ph q.z):=by
  rw [ph_mul,ph_sub o1.1,ph_sub o2.1,hp.y,hp.x,hq.y,hq.x]
 have eB:ph (mulF (addF p.y p.x) (addF q.y q.x))=(g.1.2*ph p.z+g.1.1*ph p.z)*(h.1.2*ph q.z+h.1.1*ph q.z):=by
  rw [ph_mul,ph_add,ph_add,hp.y,hp.x,hq.y,hq.x]
 have eC:ph (mulF (mulF p.t d2F) q.t)=g.1.1*g.1.2*ph p.z*(CP.d+CP.d)*(h.1.1*h.1.2*ph q.z):=by
  rw [ph_mul,ph_mul,hp.t,hq.t,d2F,ph_add,ph_d]
 have eD:ph (mulF (addF p.z p.z) q.z)=(ph p.z+ph p.z)*ph q.z:=by rw [ph_mul,ph_add]
 have okA:fOk (mulF (subF p.y p.x) (subF q.y q.x)):=mul_ok (sub_ok o1.2.1) (sub_ok o2.2.1)
 have okC:fOk (mulF (mulF p.t d2F) q.t):=mul_ok (mul_ok o1.2.2.2 d2_ok) o2.2.2.2
 have eE:=(ph_sub (x:=mulF (addF p.y p.x) (addF q.y q.x)) okA).trans (by rw [eA,eB])
 have eF:=(ph_sub (x:=mulF (addF p.z p.z) q.z) okC).trans (by rw [eC,eD])
 have eG:=(ph_add (mulF (addF p.z p.z) q.z) (mulF (mulF p.t d2F) q.t)).trans (by rw [eC,eD])
 have eH:=(ph_add (mulF (addF p.y p.x) (addF q.y q.x)) (mulF (subF p.y p.x) (subF q.y q.x))).trans (by rw [eA,eB])
 have kG:=ag3 (d:=CP.d) (p:=CP.dp g.1 h.1) rfl eG
 have kF:=ag4 (d:=CP.d) (m:=CP.dm g.1 h.1) rfl eF
 have kE:=ag1 (d:=CP.d) hX kG eE
 have kH:=ag2 (d:=CP.d) hY kF eH
 have k:=ag5 kE kH
 have h2:(ph p.z+ph p.z)*ph q.z ≠ 0:=CP.mul_ne (two_ne CP hp.z) hq.z
 refine ⟨addP_ok o1 o2 d2_ok,?_,?_,?_,?_⟩
 ·show ph (mulF _ _) ≠ 0
  rw [ph_mul,kF,kG]
  exact CP.mul_ne (CP.mul_ne h2 m0) (CP.mul_ne h2 p0)
 ·show ph (mulF _ _)=_*ph (mulF _ _)
  rw [ph_mul,ph_mul]; exact k.1
 ·show ph (mulF _ _)=_*ph (mulF _ _)
  rw [ph_mul,ph_mul]; exact k.2.1
 ·show ph (mulF _ _)=_*ph (mulF _ _)
  rw [ph_mul,ph_mul]; exact k.2.2
theorem PT_dbl {p:Pt} {g:CP.G} (hp:PT p g):PT (dblP p) (CP.add g g):=by
 have o1:=hp.ok
 have hX:=CP.ad_x g.2 g.2
 have hY:=CP.ad_y g.2 g.2
 have p0:=CP.dp_ne g.2 g.2
 have m0:=CP.dm_ne g.2 g.2
 have okx:=mul_ok o1.1 o1.1
 have oky:=mul_ok o1.2.1 o1.2.1
 have ea:ph (mulF p.x p.x)=g.1.1*ph p.z*(g.1.1*ph p.z):=by rw [ph_mul,hp.x]
 have eb:ph (mulF p.y p.y)=g.1.2*ph p.z*(g.1.2*ph p.z):=by rw [ph_mul,hp.y]
 have eh:=(ph_add (mulF p.x p.x) (mulF p.y p.y)).trans (by rw [ea,eb])
 have eg:=(ph_sub (x:=mulF p.x p.x) oky).trans (by rw [ea,eb])
 have ez:ph (addF (mulF p.z p.z) (mulF p.z p.z))=ph p.z*ph p.z+ph p.z*ph p.z:=by rw [ph_add,ph_mul]
 have ef:=(ph_add (addF (mulF p.z p.z) (mulF p.z p.z)) (subF (mulF p.x p.x) (mulF p.y p.y))).trans (by rw [ez,eg])
 have es:ph (mulF (addF p.x p.y) (addF p.x p.y))=(g.1.1*ph p.z+g.1.2*ph p.z)*(g.1.1*ph p.z+g.1.2*ph p.z):=by rw [ph_mul,ph_add,hp.x,hp.y]
 have ee:=(ph_sub (x:=addF (mulF p.x p.x) (mulF p.y p.y)) (mul_ok (add_ok o1.1 o1.2.1) (add_ok o1.1 o1.2.1))).trans (by rw [eh,es])
 have kG:=eg.trans (dg3 (p:=CP.dp g.1 g.1) g.2 rfl)
 have kF:=ef.trans (dg4 (m:=CP.dm g.1 g.1) g.2 rfl)
 have kE:=dg1 hX kG ee
 have kH:=dg2 hY kF eh
 have k:=ag5 kE kH
 have h2:ph p.z*ph p.z ≠ 0:=CP.mul_ne hp.z hp.z
 refine ⟨dblP_ok o1,?_,?_,?_,?_⟩
 ·show ph (mulF _ _) ≠ 0
  rw [ph_mul,kF,kG]
  refine CP.mul_ne (CP.mul_ne m0 h2) fun h=>CP.mul_ne p0 h2 ?_
  grind (splits:=0) -lia -linarith
 ·show ph (mulF _ _)=_*ph (mulF _ _)
  rw [ph_mul,ph_mul]; exact k.1
 ·show ph (mulF _ _)=_*ph (mulF _ _)
  rw [ph_mul,ph_mul]; exact k.2.1
 ·show ph (mulF _ _)=_*ph (mulF _ _)
  rw [ph_mul,ph_mul]; exact k.2.2
theorem PT_plain {x y:Fe} (hx:fOk x) (hy:fOk y) (o:CP.On2 (ph x,ph y)):PT (plainP x y) ⟨(ph x,ph y),o⟩:=by
 refine ⟨plain_ok hx hy,?_,?_,?_,?_⟩
 ·show ph (fe 1) ≠ 0
  rw [ph_1]; exact CP.h1
 ·show ph x=ph x*ph (fe 1)
  rw [ph_1,Fin.mul_one]
 ·show ph y=ph y*ph (fe 1)
  rw [ph_1,Fin.mul_one]
 ·show ph (mulF x y)=ph x*ph y*ph (fe 1)
  rw [ph_1,Fin.mul_one,ph_mul]
theorem PT_neut:PT neutP CP.zero:=by
 have h:=PT_plain (x:=fe 0) (y:=fe 1) (fe_ok 0) (fe_ok 1) (by rw [ph_0,ph_1]; exact CP.zero_on)
 have e:(⟨(ph (fe 0),ph (fe 1)),by rw [ph_0,ph_1]; exact CP.zero_on⟩:CP.G)=CP.zero:=Subtype.ext (by show (ph (fe 0),ph (fe 1))=_; rw [ph_0,ph_1]; rfl)
 rwa [e] at h
theorem PT_same {p q:Pt} {g h:CP.G} (hp:PT p g) (hq:PT q h):samP p q=true ↔ g=h:=by
 have hz:=CP.mul_ne hp.z hq.z
 unfold samP
 rw [Bool.and_eq_true,ph_sam,ph_sam,ph_mul,ph_mul,ph_mul,ph_mul,hp.x,hp.y,hq.x,hq.y]
 constructor
 ·rintro ⟨h1,h2⟩
  refine Subtype.ext (Prod.ext (CP.can hz ?_) (CP.can hz ?_))
  ·clear h2
   grind (splits:=0) -lia -linarith
  ·clear h1
   grind (splits:=0) -lia -linarith
 ·rintro rfl
  constructor <;> grind (splits:=0) -lia -linarith
theorem PT_steps {p:Pt} {g:CP.G} (hp:PT p g) (A:Nat):∀ (n m:Nat) (c:Pt),PT c (CP.nsm m g)->PT ((bitsDn A n).foldl (stepP p) c) (CP.nsm (m*2 ^ n+A%2 ^ n) g):=by
 intro n
 induction n with
 | zero=>intro m c hc; rw [Nat.pow_zero,Nat.mod_one,Nat.mul_one,Nat.add_zero]; exact hc
 | succ n ih=>
  intro m c hc
  show PT ((bitsDn A n).foldl (stepP p) (stepP p c (bitL A n))) _
  have hd:PT (dblP c) (CP.nsm (m+m) g):=by rw [CP.nsm_add]; exact PT_dbl hc
  have key:∀ (b:Nat),b=A / 2 ^ n%2->PT (stepP p c (Nat.beq b 1)) (CP.nsm (m+m+b) g):=by
   intro b hb
   have hb2:b < 2:=by rw [hb]; exact Nat.mod_lt _ (by omega)
   match b,hb2 with
   | 0,_=>exact hd
   | 1,_=>exact PT_add hd hp
  have h1:=ih (m+m+A / 2 ^ n%2) _ (key _ rfl)
  have e:(m+m+A / 2 ^ n%2)*2 ^ n+A%2 ^ n=m*2 ^ (n+1)+A%2 ^ (n+1):=by
   have h2:A%2 ^ (n+1)=A%2 ^ n+2 ^ n*(A / 2 ^ n%2):=by rw [Nat.pow_succ,Nat.mod_mul]
   rw [h2,Nat.pow_succ]
   generalize 2 ^ n=K
   generalize A / K%2=b
   generalize A%K=r
   rw [Nat.add_mul,Nat.add_mul,<-Nat.mul_assoc,Nat.mul_two,Nat.mul_comm b]
   omega
  rw [<-e]
  exact h1
theorem PT_times {p:Pt} {g:CP.G} (hp:PT p g) (A:Nat):PT (timesP p (bitsDn A 253)) (CP.nsm (A%2 ^ 253) g):=by
 have:=PT_steps hp A 253 0 neutP PT_neut
 rwa [Nat.zero_mul,Nat.zero_add] at this
open Go Go.Proofs
set_option linter.unusedSimpArgs false
set_option maxRecDepth 4000
theorem base_x:fv baseX%P25=bxN:=by decide +kernel
theorem base_y:fv baseY%P25=byN:=by decide +kernel
theorem ph_of {x:Fe} {n:Nat} (h:fv x%P25=n):ph x=fn n:=by
 unfold ph
 rw [<-h,fn_mod]
theorem on_nat {x y u v w:Nat} (hu:u=x*x%P25) (h:(y*y+(P25 - u))%P25=w%P25) (hw:w=1+dQN*x*x*y*y):CP.On2 (fn x,fn y):=by
 have e:=fn_eq.2 h
 have hlt:u < P25:=by rw [hu]; exact Nat.mod_lt _ QP_pos
 have e2:fn (P25 - u)+fn u=0:=by rw [<-fn_add,Nat.sub_add_cancel (Nat.le_of_lt hlt)]; exact dvd_fn (Nat.dvd_refl _)
 rw [hu,fn_mod] at e2
 rw [fn_add,fn_mul,hw,fn_add,fn_mul,fn_mul,fn_mul,fn_mul,fn_one,hu] at e
 rw [fn_mul] at e2
 show fn y*fn y - fn x*fn x=1+fn dQN*fn x*fn x*fn y*fn y
 grind (splits:=0) -lia -linarith
theorem base_on:CP.On2 (fn bxN,fn byN):=on_nat (u:=bxN*bxN%P25) (v:=0) (w:=1+dQN*bxN*bxN*byN*byN) rfl (by decide +kernel) rfl
def gB:CP.G:=⟨(fn bxN,fn byN),base_on⟩
theorem gB_ne:gB ≠ CP.zero:=fun h=>by
 have h1:fn bxN=0:=congrArg (fun g=>g.1.1) h
 rw [fn_eq0] at h1
 revert h1; decide
theorem PT_base:PT baseP gB:=by
 have e1:=ph_of base_x
 have e2:=ph_of base_y
 have hb:=base_ok
 have o:CP.On2 (ph baseX,ph baseY):=by rw [e1,e2]; exact base_on
 have h:=PT_plain baseX_ok baseY_ok o
 have e:(⟨(ph baseX,ph baseY),o⟩:CP.G)=gB:=Subtype.ext (by show (ph baseX,ph baseY)=_; rw [e1,e2]; rfl)
 rw [e] at h
 exact h
theorem ord_run:samP (timesP baseP (bitsDn LN 253)) neutP=true:=by decide +kernel
theorem gB_ord:CP.nsm LN gB=CP.zero:=by
 have h:=(PT_same (PT_times PT_base LN) PT_neut).1 ord_run
 rwa [Nat.mod_eq_of_lt (show LN < 2 ^ 253 by decide)] at h
theorem nB_lt {a:Nat} (h:a < LN):a%2 ^ 253=a:=Nat.mod_eq_of_lt (Nat.lt_trans h (by decide))
theorem run_TimesN {p:Pt} (h:pOk p) (n:Nat):rTimes [eP p,eW n]=some (timesP p (bitsDn (val (lim 8 n)) 253)):=run_Times h (ok8_lim n)
end Go.Eng
