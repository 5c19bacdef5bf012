import Derived.Test.YthiilbllojllcaaGreatZD1
namespace Go.Eng
set_option linter.unusedVariables false
theorem bJe:Pr 2551:=BU (by decide +kernel)
theorem bJf:Pr 1224481:=EH [2551] 2 21 (by simp [bJe]) (by decide) (by decide +kernel)
theorem bJg:Pr 3797:=BU (by decide +kernel)
theorem bJh:Pr 531581:=EH [3797] 2 20 (by simp [bJg]) (by decide) (by decide +kernel)
theorem bJi:Pr 1257559732178653:=EH [1224481,531581] 2 51 (by simp [bJf,bJh]) (by decide) (by decide +kernel)
theorem bJj:Pr 4434155615661930479:=EH [1257559732178653] 2 62 (by simp [bJi]) (by decide) (by decide +kernel)
theorem bJk:Pr 172054593956031949258510691:=EH [4434155615661930479] 2 88 (by simp [bJj]) (by decide) (by decide +kernel)
theorem bJl:Pr 19757330305831588566944191468367130476339:=EH [172054593956031949258510691] 2 134 (by simp [bJk]) (by decide) (by decide +kernel)
theorem bJm:Pr 276602624281642239937218680557139826668747:=EH [19757330305831588566944191468367130476339] 2 138 (by simp [bJl]) (by decide) (by decide +kernel)
theorem bJn:Pr 7237005577332262213973186563042994240857116359379907606001950938285454250989:=EH [276602624281642239937218680557139826668747] 2 253 (by simp [bJm]) (by decide) (by decide +kernel)
theorem prL:Pr 7237005577332262213973186563042994240857116359379907606001950938285454250989:=bJn
open Go Go.Proofs
theorem aGS {k:Nat} (h0:0 < k) (h:k < LN):k*k ^ (LN - 2)%LN=1:=by
 have hd:¬ LN ∣ k:=λ hd=>by have:=sQ h0 hd; omega
 exact BV (p:=LN) prL hd (by decide)
theorem aGT {g:CP.G} (hL:CP.nsm LN g=CP.zero) {k u:Nat} (hu:k*u%LN=1) (hz:CP.nsm k g=CP.zero):g=CP.zero:=by
 have h1:CP.nsm (k*u%LN) g=g:=by rw [hu,CP.nsm_one]
 rw [CP.nsm_mod hL,bV,CP.nsm_mul,hz,CP.nsm_zero] at h1;exact h1.symm
theorem aYU {k:Nat} (h0:0 < k) (h:k < LN):CP.nsm k gB ≠ CP.zero:=λ hz=>by
 have hu:=aGS h0 h;generalize k ^ (LN - 2)=u at hu;exact bHF (aGT Mb hu hz)
theorem aGU {a b:Nat} (h:a < b) (hb:b < LN):CP.nsm a gB ≠ CP.nsm b gB:=λ e=>by
 have h1:CP.nsm b gB=CP.add (CP.nsm (b - a) gB) (CP.nsm a gB):=by rw [<-CP.nsm_add,DR (As h)]
 rw [<-e] at h1;have h2:CP.add (CP.nsm (b - a) gB) (CP.nsm a gB)=CP.add CP.zero (CP.nsm a gB):=by rw [<-h1,CP.zero_add]
 exact aYU (by omega) (by omega) (CP.add_can h2)
theorem aOK {a b:Nat} (ha:a < LN) (hb:b < LN):CP.nsm a gB=CP.nsm b gB ↔ a=b:=by
 constructor
 ·intro e;rcases KL a b with h | h | h
  ·exact absurd e (aGU h hb)
  ·exact h
  ·exact absurd e.symm (aGU h ha)
 ·rintro rfl; rfl
structure RPT (r:RP) (g:CP.G):Prop where
 ok:r.ok
 z:fn r.z ≠ 0
 x:fn r.x=g.1.1*fn r.z
 y:fn r.y=g.1.2*fn r.z
theorem w6 {a b:Nat} (h:b < aK):fn (a+aK - b)=fn a - fn b:=by
 have e:fn (a+aK - b+b)=fn a:=by
  rw [DR (by omega)];exact nT.2 (Nat.add_mod_right _ _)
 rw [fQ] at e;grind (splits:=0) -lia -linarith
section
variable {q:Nat} [NeZero q]
theorem rg1 {x1 y1 x2 y2 z1 z2 d p:Fin q} (hp:p=1+d*x1*y1*x2*y2):z1*z2*(z1*z2)+d*(x1*z1*(x2*z2)*(y1*z1*(y2*z2)))=z1*z2*(z1*z2)*p:=by
 subst hp;grind (splits:=0) -lia -linarith
theorem rg2 {x1 y1 x2 y2 z1 z2 d m:Fin q} (hm:m=1 - d*x1*y1*x2*y2):z1*z2*(z1*z2) - d*(x1*z1*(x2*z2)*(y1*z1*(y2*z2)))=z1*z2*(z1*z2)*m:=by
 subst hm;grind (splits:=0) -lia -linarith
theorem rg3 {x1 y1 x2 y2 z1 z2 X p f:Fin q} (hX:X*p=x1*y2+x2*y1):z1*z2*f*(x1*z1*(y2*z2)+y1*z1*(x2*z2))=X*(f*(z1*z2*(z1*z2)*p)):=by
 grind (splits:=0) -lia -linarith
theorem rg4 {x1 y1 x2 y2 z1 z2 Y m f:Fin q} (hY:Y*m=y1*y2+x1*x2):z1*z2*f*(y1*z1*(y2*z2)+x1*z1*(x2*z2))=Y*(z1*z2*(z1*z2)*m*f):=by
 grind (splits:=0) -lia -linarith
end
theorem Z7 {p r:RP} {g h:CP.G} (hp:RPT p g) (hr:RPT r h):RPT (MY p r A1) (CP.add g h):=by
 have hX:=CP.ad_x g.2 h.2;have hY:=CP.ad_y g.2 h.2;have p0:=CP.dp_ne g.2 h.2;have m0:=CP.dm_ne g.2 h.2;have eB:fn (p.z*r.z%aK*(p.z*r.z%aK)%aK)=fn p.z*fn r.z*(fn p.z*fn r.z):=by rw [bR,bI,bR,bI]
 have eE:fn (A1*(p.x*r.x%aK*(p.y*r.y%aK)%aK)%aK)=CP.d*(g.1.1*fn p.z*(h.1.1*fn r.z)*(g.1.2*fn p.z*(h.1.2*fn r.z))):=by
  rw [bR,bI,bR,bI,bR,bI,bR,bI,hp.x,hp.y,hr.x,hr.y]; rfl
 have lE:A1*(p.x*r.x%aK*(p.y*r.y%aK)%aK)%aK < aK:=mP _;have eF:fn ((p.z*r.z%aK*(p.z*r.z%aK)%aK+aK - A1*(p.x*r.x%aK*(p.y*r.y%aK)%aK)%aK)%aK)=fn p.z*fn r.z*(fn p.z*fn r.z)*CP.dm g.1 h.1:=by
  rw [bR,w6 lE,eB,eE];exact rg2 rfl
 have eG:fn ((p.z*r.z%aK*(p.z*r.z%aK)%aK+A1*(p.x*r.x%aK*(p.y*r.y%aK)%aK)%aK)%aK)=fn p.z*fn r.z*(fn p.z*fn r.z)*CP.dp g.1 h.1:=by
  rw [bR,fQ,eB,eE];exact rg1 rfl
 have hz:fn p.z*fn r.z ≠ 0:=CP.mul_ne hp.z hr.z;have hz2:=CP.mul_ne hz hz;have key:∀ F G:Nat,fn F=fn p.z*fn r.z*(fn p.z*fn r.z)*CP.dm g.1 h.1->fn G=fn p.z*fn r.z*(fn p.z*fn r.z)*CP.dp g.1 h.1 ->
   (fn (F*G%aK) ≠ 0 /\ fn (p.z*r.z%aK*F%aK*((p.x*r.y%aK+p.y*r.x%aK)%aK)%aK)=(CP.add g h).1.1*fn (F*G%aK)) /\
    fn (p.z*r.z%aK*G%aK*((p.y*r.y%aK+p.x*r.x%aK)%aK)%aK)=(CP.add g h).1.2*fn (F*G%aK):=by
  intro F G hF hG;refine ⟨⟨?_,?_⟩,?_⟩
  ·rw [bR,bI,hF,hG];exact CP.mul_ne (CP.mul_ne hz2 m0) (CP.mul_ne hz2 p0)
  ·rw [bR,bI,bR,bI,bR,bI,bR,fQ,bR,bI,bR,bI,bR,bI,hp.x,hp.y,hr.x,hr.y,hG];exact rg3 hX
  ·rw [bR,bI,bR,bI,bR,bI,bR,fQ,bR,bI,bR,bI,bR,bI,hp.x,hp.y,hr.x,hr.y,hF];exact rg4 hY
 have k:=key _ _ eF eG;exact ⟨Ga _ _ _,k.1.1,k.1.2,k.2⟩
theorem aGV:RPT tA CP.zero:=by
 refine ⟨Gb,?_,?_,?_⟩
 ·show fn 1 ≠ 0;rw [jK]; exact CP.h1
 ·show fn 0=0*fn 1;rw [xH,lB]
 ·show fn 1=1*fn 1;rw [Fin.one_mul]
theorem aDZ {p:RP} {g:CP.G} (hp:RPT p g) (A:Nat):∀ (n m:Nat) (c:RP),RPT c (CP.nsm m g)->RPT ((cU A n).foldl (D8 p A1) c) (CP.nsm (m*2 ^ n+A%2 ^ n) g):=by
 intro n
 induction n with
 | zero=>intro m c hc; rw [iY,qK,gY,fP]; exact hc
 | succ n ih=>
  intro m c hc;show RPT ((cU A n).foldl (D8 p A1) (D8 p A1 c (wH A n))) _;have hd:RPT (MY c c A1) (CP.nsm (m+m) g):=by rw [CP.nsm_add]; exact Z7 hc hc
  have key:∀ (b:Nat),b=A / 2 ^ n%2->RPT (D8 p A1 c (Nat.beq b 1)) (CP.nsm (m+m+b) g):=by
   intro b hb;have hb2:b < 2:=by rw [hb]; exact bH _ (by omega)
   match b,hb2 with
   | 0,_=>exact hd
   | 1,_=>exact Z7 hd hp
  have h1:=ih (m+m+A / 2 ^ n%2) _ (key _ rfl);have e:(m+m+A / 2 ^ n%2)*2 ^ n+A%2 ^ n=m*2 ^ (n+1)+A%2 ^ (n+1):=by
   have h2:A%2 ^ (n+1)=A%2 ^ n+2 ^ n*(A / 2 ^ n%2):=by rw [bM,qJ]
   rw [h2,bM];generalize 2 ^ n=K;generalize A / K%2=b;generalize A%K=r;rw [fX,fX,<-dU,Nat.mul_two,bV b];omega
  rw [<-e];exact h1
theorem aD0 {p:RP} {g:CP.G} (hp:RPT p g) (A:Nat):RPT (CL p A A1) (CP.nsm A g):=by
 have:=aDZ hp A (bl A) 0 tA aGV;rw [HB,bT,aY (z7 A).1] at this;exact this
set_option linter.unusedSimpArgs false
def ptL:List Int->Option Pt
 | [a,b,c,d,e,f,g,h,i,j,k,l,m,n,o,p,q,r,s,t]=>cond (xA a b c d e && (xA f g h i j && (xA k l m n o && xA p q r s t))) (some ⟨yD a b c d e,yD f g h i j,yD k l m n o,yD p q r s t⟩) none
 | _=>none
set_option maxRecDepth 4000
theorem aI {α β:Type} {o:Option α} {a:α} {k:α->Option β} {r:Option β} (h:o=some a) (hk:k a=r):o.bind k=r:=by
 subst h; exact hk
theorem nC {β:Type} {b:Bool} {x y r:Option β} (h:b=true) (hk:x=r):cond b x y=r:=by
 subst h; exact hk
theorem aYV {l:List Int} {p:Pt} (h:ptL l=some p):l=nX p /\ nG p:=by
 unfold ptL at h;split at h
 ·obtain ⟨h1,h2⟩:=bO h;simp only [aW] at h1;obtain ⟨x,rfl,rfl,rfl,rfl,rfl,hx,ex⟩:=eO h1.1;obtain ⟨y,rfl,rfl,rfl,rfl,rfl,hy,ey⟩:=eO h1.2.1;obtain ⟨z,rfl,rfl,rfl,rfl,rfl,hz,ez⟩:=eO h1.2.2.1;obtain ⟨w,rfl,rfl,rfl,rfl,rfl,hw,ew⟩:=eO h1.2.2.2;rw [ex,ey,ez,ew] at h2;subst h2;exact ⟨rfl,hx,hy,hz,hw⟩
 ·cases h
theorem aOL {p:Pt} (h:nG p):ptL (nX p)=some p:=by
 obtain ⟨x,y,z,w⟩:=p;obtain ⟨h1,h2,h3,h4⟩:=h;simp only [ptL,nX];rw [eQ h1,eQ h2,eQ h3,eQ h4]; rfl
end Go.Eng
