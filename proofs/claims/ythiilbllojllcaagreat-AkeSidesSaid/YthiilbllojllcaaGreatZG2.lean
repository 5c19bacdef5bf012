import Derived.Test.YthiilbllojllcaaGreatZC4
import Derived.Test.YthiilbllojllcaaGreatZG1
namespace Go.Eng
set_option linter.unusedVariables false
def ph (x:Fe):Fin QP:=fn (fv x)
theorem bG (x y:Fe):ph (aN x y)=ph x*ph y:=by
 unfold ph;rw [<-bI,nT]; exact mul_mod x y
theorem mM (x y:Fe):ph (gS x y)=ph x+ph y:=by
 unfold ph;rw [<-fQ,nT]; exact add_mod x y
theorem jL {x y:Fe} (hy:cS y):ph (cQ x y)=ph x - ph y:=bBa (Pm (x:=x) hy)
theorem xW {n:Nat} (h:n < aK):ph (fe n)=fn n:=by
 unfold ph;rw [Dq (cZ h (by decide))]
theorem Eh {x y:Fe}:jW x y=true ↔ ph x=ph y:=by
 unfold ph jW;rw [nT];constructor
 ·intro h; exact aT h
 ·intro h; rw [h]; exact oH _
theorem bEJ:ph dF=CP.d:=xW (by decide)
theorem Iw:ph f0=0:=xH
theorem bEK:ph (fe 0)=0:=(xW (by decide)).trans xH
theorem BB:ph (fe 1)=1:=xW (by decide)
structure PT (p:Pt) (g:CP.G):Prop where
 ok:nG p
 z:ph p.z ≠ 0
 x:ph p.x=g.1.1*ph p.z
 y:ph p.y=g.1.2*ph p.z
 t:ph p.t=g.1.1*g.1.2*ph p.z
section
variable {q:Nat} [NeZero q]
theorem ag1 {x1 y1 x2 y2 z1 z2 X G d p E:Fin q} (hX:X*p=x1*y2+x2*y1) (hG:G=(z1+z1)*z2*p)
  (hE:E=(y1*z1+x1*z1)*(y2*z2+x2*z2) - (y1*z1 - x1*z1)*(y2*z2 - x2*z2)):E=X*G:=by
 subst hG hE;grind (splits:=0) -lia -linarith
theorem ag2 {x1 y1 x2 y2 z1 z2 Y F d m H:Fin q} (hY:Y*m=y1*y2+x1*x2) (hF:F=(z1+z1)*z2*m)
  (hH:H=(y1*z1+x1*z1)*(y2*z2+x2*z2)+(y1*z1 - x1*z1)*(y2*z2 - x2*z2)):H=Y*F:=by
 subst hF hH;grind (splits:=0) -lia -linarith
theorem ag3 {x1 y1 x2 y2 z1 z2 d p G:Fin q} (hp:p=1+d*x1*y1*x2*y2) (hG:G=(z1+z1)*z2+x1*y1*z1*(d+d)*(x2*y2*z2)):G=(z1+z1)*z2*p:=by
 subst hp hG;grind (splits:=0) -lia -linarith
theorem ag4 {x1 y1 x2 y2 z1 z2 d m F:Fin q} (hm:m=1 - d*x1*y1*x2*y2) (hF:F=(z1+z1)*z2 - x1*y1*z1*(d+d)*(x2*y2*z2)):F=(z1+z1)*z2*m:=by
 subst hm hF;grind (splits:=0) -lia -linarith
theorem ag5 {E F G H X Y:Fin q} (hE:E=X*G) (hH:H=Y*F):E*F=X*(F*G) /\ G*H=Y*(F*G) /\ E*H=X*Y*(F*G):=by
 subst hE hH;refine ⟨?_,?_,?_⟩ <;> grind (splits:=0) -lia -linarith
theorem aL3 (C:Cur q) {z:Fin q} (hz:z ≠ 0):z+z ≠ 0:=λ h=>by
 have h:2*z=0:=by grind (splits:=0) -lia -linarith
 exact (C.noz _ _ h).elim C.h2 hz
theorem dg1 {x y z X p G E:Fin q} (hX:X*p=x*y+x*y) (hG:G=-(p*(z*z))) (hE:E=x*z*(x*z)+y*z*(y*z) - (x*z+y*z)*(x*z+y*z)):E=X*G:=by
 subst hG hE;grind (splits:=0) -lia -linarith
theorem dg2 {x y z Y m F H:Fin q} (hY:Y*m=y*y+x*x) (hF:F=m*(z*z)) (hH:H=x*z*(x*z)+y*z*(y*z)):H=Y*F:=by
 subst hF hH;grind (splits:=0) -lia -linarith
theorem dg3 {x y z d p:Fin q} (o:On d x y) (hp:p=1+d*x*y*x*y):x*z*(x*z) - y*z*(y*z)=-(p*(z*z)):=by
 unfold On at o;subst hp;grind (splits:=0) -lia -linarith
theorem dg4 {x y z d m:Fin q} (o:On d x y) (hm:m=1 - d*x*y*x*y):z*z+z*z+(x*z*(x*z) - y*z*(y*z))=m*(z*z):=by
 unfold On at o;subst hm;grind (splits:=0) -lia -linarith
end
theorem aL4 {p q:Pt} {g h:CP.G} (hp:PT p g) (hq:PT q h):PT (Bh p q Fd) (CP.add g h):=by
 have o1:=hp.ok;have o2:=hq.ok;have hX:=CP.ad_x g.2 h.2;have hY:=CP.ad_y g.2 h.2;have p0:=CP.dp_ne g.2 h.2;have m0:=CP.dm_ne g.2 h.2;have eA:ph (aN (cQ p.y p.x) (cQ q.y q.x))=(g.1.2*ph p.z - g.1.1*ph p.z)*(h.1.2*ph q.z - h.1.1*ph q.z):=by
  rw [bG,jL o1.1,jL o2.1,hp.y,hp.x,hq.y,hq.x]
 have eB:ph (aN (gS p.y p.x) (gS q.y q.x))=(g.1.2*ph p.z+g.1.1*ph p.z)*(h.1.2*ph q.z+h.1.1*ph q.z):=by
  rw [bG,mM,mM,hp.y,hp.x,hq.y,hq.x]
 have eC:ph (aN (aN p.t Fd) q.t)=g.1.1*g.1.2*ph p.z*(CP.d+CP.d)*(h.1.1*h.1.2*ph q.z):=by
  rw [bG,bG,hp.t,hq.t,Fd,mM,bEJ]
 have eD:ph (aN (gS p.z p.z) q.z)=(ph p.z+ph p.z)*ph q.z:=by rw [bG,mM]
 have okA:cS (aN (cQ p.y p.x) (cQ q.y q.x)):=aL (cR o1.2.1) (cR o2.2.1);have okC:cS (aN (aN p.t Fd) q.t):=aL (aL o1.2.2.2 Ix) o2.2.2.2;have eE:=(jL (x:=aN (gS p.y p.x) (gS q.y q.x)) okA).trans (by rw [eA,eB]);have eF:=(jL (x:=aN (gS p.z p.z) q.z) okC).trans (by rw [eC,eD]);have eG:=(mM (aN (gS p.z p.z) q.z) (aN (aN p.t Fd) q.t)).trans (by rw [eC,eD]);have eH:=(mM (aN (gS p.y p.x) (gS q.y q.x)) (aN (cQ p.y p.x) (cQ q.y q.x))).trans (by rw [eA,eB]);have kG:=ag3 (d:=CP.d) (p:=CP.dp g.1 h.1) rfl eG;have kF:=ag4 (d:=CP.d) (m:=CP.dm g.1 h.1) rfl eF;have kE:=ag1 (d:=CP.d) hX kG eE;have kH:=ag2 (d:=CP.d) hY kF eH;have k:=ag5 kE kH;have h2:(ph p.z+ph p.z)*ph q.z ≠ 0:=CP.mul_ne (aL3 CP hp.z) hq.z;refine ⟨Gr o1 o2 Ix,?_,?_,?_,?_⟩
 ·show ph (aN _ _) ≠ 0;rw [bG,kF,kG];exact CP.mul_ne (CP.mul_ne h2 m0) (CP.mul_ne h2 p0)
 ·show ph (aN _ _)=_*ph (aN _ _);rw [bG,bG]; exact k.1
 ·show ph (aN _ _)=_*ph (aN _ _);rw [bG,bG]; exact k.2.1
 ·show ph (aN _ _)=_*ph (aN _ _);rw [bG,bG]; exact k.2.2
theorem bEL {p:Pt} {g:CP.G} (hp:PT p g):PT (JD p) (CP.add g g):=by
 have o1:=hp.ok;have hX:=CP.ad_x g.2 g.2;have hY:=CP.ad_y g.2 g.2;have p0:=CP.dp_ne g.2 g.2;have m0:=CP.dm_ne g.2 g.2;have okx:=aL o1.1 o1.1;have oky:=aL o1.2.1 o1.2.1;have ea:ph (aN p.x p.x)=g.1.1*ph p.z*(g.1.1*ph p.z):=by rw [bG,hp.x]
 have eb:ph (aN p.y p.y)=g.1.2*ph p.z*(g.1.2*ph p.z):=by rw [bG,hp.y]
 have eh:=(mM (aN p.x p.x) (aN p.y p.y)).trans (by rw [ea,eb]);have eg:=(jL (x:=aN p.x p.x) oky).trans (by rw [ea,eb]);have ez:ph (gS (aN p.z p.z) (aN p.z p.z))=ph p.z*ph p.z+ph p.z*ph p.z:=by rw [mM,bG]
 have ef:=(mM (gS (aN p.z p.z) (aN p.z p.z)) (cQ (aN p.x p.x) (aN p.y p.y))).trans (by rw [ez,eg]);have es:ph (aN (gS p.x p.y) (gS p.x p.y))=(g.1.1*ph p.z+g.1.2*ph p.z)*(g.1.1*ph p.z+g.1.2*ph p.z):=by rw [bG,mM,hp.x,hp.y]
 have ee:=(jL (x:=gS (aN p.x p.x) (aN p.y p.y)) (aL (cT o1.1 o1.2.1) (cT o1.1 o1.2.1))).trans (by rw [eh,es]);have kG:=eg.trans (dg3 (p:=CP.dp g.1 g.1) g.2 rfl);have kF:=ef.trans (dg4 (m:=CP.dm g.1 g.1) g.2 rfl);have kE:=dg1 hX kG ee;have kH:=dg2 hY kF eh;have k:=ag5 kE kH;have h2:ph p.z*ph p.z ≠ 0:=CP.mul_ne hp.z hp.z;refine ⟨J1 o1,?_,?_,?_,?_⟩
 ·show ph (aN _ _) ≠ 0;rw [bG,kF,kG];refine CP.mul_ne (CP.mul_ne m0 h2) λ h=>CP.mul_ne p0 h2 ?_;grind (splits:=0) -lia -linarith
 ·show ph (aN _ _)=_*ph (aN _ _);rw [bG,bG]; exact k.1
 ·show ph (aN _ _)=_*ph (aN _ _);rw [bG,bG]; exact k.2.1
 ·show ph (aN _ _)=_*ph (aN _ _);rw [bG,bG]; exact k.2.2
theorem MZ {x y:Fe} (hx:cS x) (hy:cS y) (o:CP.On2 (ph x,ph y)):PT (Bf x y) ⟨(ph x,ph y),o⟩:=by
 refine ⟨Mi hx hy,?_,?_,?_,?_⟩
 ·show ph (fe 1) ≠ 0;rw [BB]; exact CP.h1
 ·show ph x=ph x*ph (fe 1);rw [BB,iX]
 ·show ph y=ph y*ph (fe 1);rw [BB,iX]
 ·show ph (aN x y)=ph x*ph y*ph (fe 1);rw [BB,iX,bG]
theorem SF:PT dM CP.zero:=by
 have h:=MZ (x:=fe 0) (y:=fe 1) (cA 0) (cA 1) (by rw [bEK,BB]; exact CP.zero_on);have e:(⟨(ph (fe 0),ph (fe 1)),by rw [bEK,BB]; exact CP.zero_on⟩:CP.G)=CP.zero:=oJ (by show (ph (fe 0),ph (fe 1))=_; rw [bEK,BB]; rfl);rwa [e] at h
theorem aTk {p q:Pt} {g h:CP.G} (hp:PT p g) (hq:PT q h):LD p q=true ↔ g=h:=by
 have hz:=CP.mul_ne hp.z hq.z;unfold LD;rw [aW,Eh,Eh,bG,bG,bG,bG,hp.x,hp.y,hq.x,hq.y];constructor
 ·rintro ⟨h1,h2⟩;refine oJ (qN (CP.can hz ?_) (CP.can hz ?_))
  ·clear h2;grind (splits:=0) -lia -linarith
  ·clear h1;grind (splits:=0) -lia -linarith
 ·rintro rfl;constructor <;> grind (splits:=0) -lia -linarith
theorem aL5 {p:Pt} {g:CP.G} (hp:PT p g) (A:Nat):∀ (n m:Nat) (c:Pt),PT c (CP.nsm m g)->PT ((cU A n).foldl (D1 p) c) (CP.nsm (m*2 ^ n+A%2 ^ n) g):=by
 intro n
 induction n with
 | zero=>intro m c hc; rw [iY,qK,gY,fP]; exact hc
 | succ n ih=>
  intro m c hc;show PT ((cU A n).foldl (D1 p) (D1 p c (wH A n))) _;have hd:PT (JD c) (CP.nsm (m+m) g):=by rw [CP.nsm_add]; exact bEL hc
  have key:∀ (b:Nat),b=A / 2 ^ n%2->PT (D1 p c (Nat.beq b 1)) (CP.nsm (m+m+b) g):=by
   intro b hb;have hb2:b < 2:=by rw [hb]; exact bH _ (by omega)
   match b,hb2 with
   | 0,_=>exact hd
   | 1,_=>exact aL4 hd hp
  have h1:=ih (m+m+A / 2 ^ n%2) _ (key _ rfl);have e:(m+m+A / 2 ^ n%2)*2 ^ n+A%2 ^ n=m*2 ^ (n+1)+A%2 ^ (n+1):=by
   have h2:A%2 ^ (n+1)=A%2 ^ n+2 ^ n*(A / 2 ^ n%2):=by rw [bM,qJ]
   rw [h2,bM];generalize 2 ^ n=K;generalize A / K%2=b;generalize A%K=r;rw [fX,fX,<-dU,Nat.mul_two,bV b];omega
  rw [<-e];exact h1
theorem Ma {p:Pt} {g:CP.G} (hp:PT p g) (A:Nat):PT (eY p (cU A 253)) (CP.nsm (A%2 ^ 253) g):=by
 have:=aL5 hp A 253 0 dM SF;rwa [HB,bT] at this
open Go Go.Proofs
set_option linter.unusedSimpArgs false
set_option maxRecDepth 4000
theorem bEM:fv OK%aK=bxN:=by decide +kernel
theorem bEN:fv pB%aK=byN:=by decide +kernel
theorem aXZ {x:Fe} {n:Nat} (h:fv x%aK=n):ph x=fn n:=by
 unfold ph;rw [<-h,bR]
theorem aL6 {x y u v w:Nat} (hu:u=x*x%aK) (h:(y*y+(aK - u))%aK=w%aK) (hw:w=1+A1*x*x*y*y):CP.On2 (fn x,fn y):=by
 have e:=nT.2 h;have hlt:u < aK:=by rw [hu]; exact bH _ aIh
 have e2:fn (aK - u)+fn u=0:=by rw [<-fQ,DR (As hlt)]; exact Xa (KK _)
 rw [hu,bR] at e2;rw [fQ,bI,hw,fQ,bI,bI,bI,bI,jK,hu] at e;rw [bI] at e2;show fn y*fn y - fn x*fn x=1+fn A1*fn x*fn x*fn y*fn y;grind (splits:=0) -lia -linarith
theorem aCG:CP.On2 (fn bxN,fn byN):=aL6 (u:=bxN*bxN%aK) (v:=0) (w:=1+A1*bxN*bxN*byN*byN) rfl (by decide +kernel) rfl
def gB:CP.G:=⟨(fn bxN,fn byN),aCG⟩
theorem bHF:gB ≠ CP.zero:=λ h=>by
 have h1:fn bxN=0:=dW (λ g=>g.1.1) h;rw [jA] at h1;revert h1; decide
theorem SG:PT i4 gB:=by
 have e1:=aXZ bEM;have e2:=aXZ bEN;have hb:=DD;have o:CP.On2 (ph OK,ph pB):=by rw [e1,e2]; exact aCG
 have h:=MZ Mk n8 o;have e:(⟨(ph OK,ph pB),o⟩:CP.G)=gB:=oJ (by show (ph OK,ph pB)=_; rw [e1,e2]; rfl);rw [e] at h;exact h
theorem aTl:LD (eY i4 (cU LN 253)) dM=true:=by decide +kernel
theorem Mb:CP.nsm LN gB=CP.zero:=by
 have h:=(aTk (Ma SG LN) SF).1 aTl;rwa [aY (show LN < 2 ^ 253 by decide)] at h
theorem aX0 {a:Nat} (h:a < LN):a%2 ^ 253=a:=aY (cZ h (by decide))
theorem ZK {p:Pt} (h:nG p) (n:Nat):EX [eP p,eW n]=some (eY p (cU (val (cM 8 n)) 253)):=C4 h (cL n)
end Go.Eng
