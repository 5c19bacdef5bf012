import Derived.Test.YtmicbaijcbkmjaaGreatZD1
namespace Go.Eng
set_option linter.unusedVariables false
open Go Go.Proofs
structure RPT (r:RP) (g:CP.G):Prop where
 ok:r.ok
 z:fn r.z ≠ 0
 x:fn r.x=g.1.1*fn r.z
 y:fn r.y=g.1.2*fn r.z
theorem uF {a b:Nat} (h:b < aJ):fn (a+aJ - b)=fn a - fn b:=by
 have e:fn (a+aJ - b+b)=fn a:=by
  rw [PU (by omega)];exact tZ.2 (Nat.add_mod_right _ _)
 rw [qL] at e;grind (splits:=0) -lia -linarith
section
variable {q:Nat} [NeZero q]
theorem rg1 {x1 y1 x2 y2 z1 z2 d p:Fin q} (hp:p=1+d*x1*y1*x2*y2):z1*z2*(z1*z2)+d*(x1*z1*(x2*z2)*(y1*z1*(y2*z2)))=z1*z2*(z1*z2)*p:=by
 subst hp;grind (splits:=0) -lia -linarith
theorem rg2 {x1 y1 x2 y2 z1 z2 d m:Fin q} (hm:m=1 - d*x1*y1*x2*y2):z1*z2*(z1*z2) - d*(x1*z1*(x2*z2)*(y1*z1*(y2*z2)))=z1*z2*(z1*z2)*m:=by
 subst hm;grind (splits:=0) -lia -linarith
theorem rg3 {x1 y1 x2 y2 z1 z2 X p f:Fin q} (hX:X*p=x1*y2+x2*y1):z1*z2*f*(x1*z1*(y2*z2)+y1*z1*(x2*z2))=X*(f*(z1*z2*(z1*z2)*p)):=by
 grind (splits:=0) -lia -linarith
theorem rg4 {x1 y1 x2 y2 z1 z2 Y m f:Fin q} (hY:Y*m=y1*y2+x1*x2):z1*z2*f*(y1*z1*(y2*z2)+x1*z1*(x2*z2))=Y*(z1*z2*(z1*z2)*m*f):=by
 grind (splits:=0) -lia -linarith
end
theorem Nu {p r:RP} {g h:CP.G} (hp:RPT p g) (hr:RPT r h):RPT (KN p r ZD) (CP.add g h):=by
 have hX:=CP.ad_x g.2 h.2;have hY:=CP.ad_y g.2 h.2;have p0:=CP.dp_ne g.2 h.2;have m0:=CP.dm_ne g.2 h.2;have eB:fn (p.z*r.z%aJ*(p.z*r.z%aJ)%aJ)=fn p.z*fn r.z*(fn p.z*fn r.z):=by rw [bR,bQ,bR,bQ]
 have eE:fn (ZD*(p.x*r.x%aJ*(p.y*r.y%aJ)%aJ)%aJ)=CP.d*(g.1.1*fn p.z*(h.1.1*fn r.z)*(g.1.2*fn p.z*(h.1.2*fn r.z))):=by
  rw [bR,bQ,bR,bQ,bR,bQ,bR,bQ,hp.x,hp.y,hr.x,hr.y]; rfl
 have lE:ZD*(p.x*r.x%aJ*(p.y*r.y%aJ)%aJ)%aJ < aJ:=mP _;have eF:fn ((p.z*r.z%aJ*(p.z*r.z%aJ)%aJ+aJ - ZD*(p.x*r.x%aJ*(p.y*r.y%aJ)%aJ)%aJ)%aJ)=fn p.z*fn r.z*(fn p.z*fn r.z)*CP.dm g.1 h.1:=by
  rw [bR,uF lE,eB,eE];exact rg2 rfl
 have eG:fn ((p.z*r.z%aJ*(p.z*r.z%aJ)%aJ+ZD*(p.x*r.x%aJ*(p.y*r.y%aJ)%aJ)%aJ)%aJ)=fn p.z*fn r.z*(fn p.z*fn r.z)*CP.dp g.1 h.1:=by
  rw [bR,qL,eB,eE];exact rg1 rfl
 have hz:fn p.z*fn r.z ≠ 0:=CP.mul_ne hp.z hr.z;have hz2:=CP.mul_ne hz hz;have key:∀ F G:Nat,fn F=fn p.z*fn r.z*(fn p.z*fn r.z)*CP.dm g.1 h.1->fn G=fn p.z*fn r.z*(fn p.z*fn r.z)*CP.dp g.1 h.1 ->
   (fn (F*G%aJ) ≠ 0 /\ fn (p.z*r.z%aJ*F%aJ*((p.x*r.y%aJ+p.y*r.x%aJ)%aJ)%aJ)=(CP.add g h).1.1*fn (F*G%aJ)) /\
    fn (p.z*r.z%aJ*G%aJ*((p.y*r.y%aJ+p.x*r.x%aJ)%aJ)%aJ)=(CP.add g h).1.2*fn (F*G%aJ):=by
  intro F G hF hG;refine ⟨⟨?_,?_⟩,?_⟩
  ·rw [bR,bQ,hF,hG];exact CP.mul_ne (CP.mul_ne hz2 m0) (CP.mul_ne hz2 p0)
  ·rw [bR,bQ,bR,bQ,bR,bQ,bR,qL,bR,bQ,bR,bQ,bR,bQ,hp.x,hp.y,hr.x,hr.y,hG];exact rg3 hX
  ·rw [bR,bQ,bR,bQ,bR,bQ,bR,qL,bR,bQ,bR,bQ,bR,bQ,hp.x,hp.y,hr.x,hr.y,hF];exact rg4 hY
 have k:=key _ _ eF eG;exact ⟨DJ _ _ _,k.1.1,k.1.2,k.2⟩
theorem aEW:RPT pZ CP.zero:=by
 refine ⟨DK,?_,?_,?_⟩
 ·show fn 1 ≠ 0;rw [oU]; exact CP.h1
 ·show fn 0=0*fn 1;rw [t7,q9]
 ·show fn 1=1*fn 1;rw [Fin.one_mul]
set_option linter.unusedSimpArgs false
set_option maxRecDepth 4000
theorem aI {α β:Type} {o:Option α} {a:α} {k:α->Option β} {r:Option β} (h:o=some a) (hk:k a=r):o.bind k=r:=by
 subst h; exact hk
theorem GI {β:Type} {b:Bool} {x y r:Option β} (h:b=true) (hk:x=r):cond b x y=r:=by
 subst h; exact hk
set_option maxRecDepth 4000
theorem W7 (z:Nat):fn (Bl z)=P5 (fn z):=by
 rw [SZ bAv];unfold P5;rw [bR];exact tZ.2 (pJ (sL _ _).symm _)
theorem Z8 {r:RP} {g:CP.G} (hr:RPT r g):fn (Bf r).1=g.1.1 /\ fn (Bf r).2=g.1.2:=by
 have h:=aOf _ hr.z;have e1:fn (Bf r).1=fn r.x*P5 (fn r.z):=by
  show fn (r.x*Bl r.z%aJ)=_;rw [bR,bQ,W7]
 have e2:fn (Bf r).2=fn r.y*P5 (fn r.z):=by
  show fn (r.y*Bl r.z%aJ)=_;rw [bR,bQ,W7]
 rw [e1,e2,hr.x,hr.y];generalize fn r.z=z at *;generalize P5 z=i at *;constructor <;> grind (splits:=0) -lia -linarith
end Go.Eng
