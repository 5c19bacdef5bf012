import Derived.Test.YthiilbllojllcaaGreatZT2
namespace Go.Eng
noncomputable section
open Go Go.Proofs
set_option linter.all false
set_option maxRecDepth 4000
theorem nbL {x:Nat} (h:x < aK):(nb x).length <= 1048576:=dC (aYC (As h)) (by rw [Yc]; decide)
theorem tM:1 < aK:=by decide
theorem aAw:0 < aK:=by decide
theorem bAT (x y:Nat):Wt x y < aK:=by
 unfold Wt;exact mP _
theorem aP3 (x y:Nat):AD x y < aK:=by
 unfold AD;exact TO tM (mP _)
theorem bAU (x y:Nat):ziR x y < aK:=by
 unfold ziR;exact mP _
theorem aP4 {de y2:Nat} (hd:de < aK) (hy:y2 < aK):Ay [eN 1,eN y2]=some ((1+aK - y2)%aK) /\ qV [eN de,eN ((1+aK - y2)%aK)]=some (de*((1+aK - y2)%aK)%aK) /\
  FM [eN (de*((1+aK - y2)%aK)%aK)]=some (q9 (de*((1+aK - y2)%aK)%aK)) /\ aO0 [eN (q9 (de*((1+aK - y2)%aK)%aK))]=some (lo 32 (q9 (de*((1+aK - y2)%aK)%aK))) :=
 ⟨pW tM hy,bQ hd (mP _),B5 (mP _),aRN (nbL (J0 (mP _)))⟩
abbrev bAV:Cg:=aWp (Nat × Nat) aCy (λ t=>nb t.fst) (λ t=>(nb t.fst).length) (λ t=>nb t.snd) (λ t=>(nb t.snd).length) (Nat) IL (λ t=>nb t) (λ t=>(nb t).length) (Nat) Ay (λ t=>nb t) (λ t=>(nb t).length) (Nat) qV (λ t=>nb t) (λ t=>(nb t).length) (Nat × Bool) Kb (λ t=>nb t.fst) (λ t=>(nb t.fst).length) (λ t=>t.2) (Bool) IM (λ t=>t) (Nat) rRI (λ t=>nb t) (λ t=>(nb t).length) (Nat) aAk (λ t=>nb t) (λ t=>(nb t).length) (Nat) FM (λ t=>nb t) (λ t=>(nb t).length) (List Int) aO0 (λ t=>t)
theorem aP5:CfOk prog bAV.c:=gk <| aA aFG <| aA Qw <| aA GC <| aA xN <| aA aCD <| aA Qx <| aA aIY <| aA Qu <| aA Jc <| aA bDu <| aH
theorem XN:CallOk prog 101 Tk:=by
 refine fO aP5 Tryz.func101 ?_;intro args t ht;obtain ⟨p,rfl,hp,rfl⟩:=Vw (F:=λ r=>lo 32 (nJ (Eg r).1 (Eg r).2)) ht;have e0:=ZI hp;have hx:(Eg p).1 < aK:=mP _;have hy:(Eg p).2 < aK:=mP _;refine (bAE ..).trans ?_;refine aI e0 ?_;show _=some (pG (lo 32 (nJ (Eg p).1 (Eg p).2)));generalize Eg p=xy at *;obtain ⟨x,y⟩:=xy;dsimp only at *;have k1:=bAT x y;have kI:=aP3 x y;have kz:=bAU x y;have g3:qV [eN ((1+y)%aK),eN ((1+aK - y)%aK)]=some (Wt x y):=bQ (mP _) (mP _);have g6:=bQ k1 (mP (x*y%aK*(x*y%aK)));have g7:=V1 tM (mP (Wt x y*(x*y%aK*(x*y%aK)%aK)));have hI:AD x y=(DZ 1 (Wt x y*(x*y%aK*(x*y%aK)%aK)%aK)).1:=rfl;have g8:=bQ kI k1;have g9:=bQ kI (mP (x*y));have g10:=bQ (mP (AD x y*Wt x y)) (mP (AD x y*(x*y%aK)));have g11:qV [eN (AD x y*Wt x y%aK*(AD x y*(x*y%aK)%aK)%aK),eN (x*y%aK)]=some (ziR x y):=bQ (mP _) (mP _);have g12:=bQ (mP (x*y)) kz;have g13:IM [eN (x*y%aK*ziR x y%aK)]=some (HN x y):=B4 (nbL (mP _));have dx:xR x y=cond (HN x y) (y*iN%aK) x:=rfl;have dy:yR x y=cond (HN x y) (x*iN%aK) y:=rfl;have dd:Tj x y=cond (HN x y) (AD x y*Wt x y%aK*Ti%aK) (AD x y*(x*y%aK)%aK):=rfl;have dy2:y2R x y=cond (Nat.beq (xR x y*ziR x y%aK%2) 1) ((0+aK - yR x y)%aK) (yR x y):=rfl;have dB:nJ x y=q9 (Tj x y*((1+aK - y2R x y)%aK)%aK):=rfl;have k2:=aGF (x:=x) hy;have ky:=aGE (x:=x) hy;have kx:xR x y < aK:=FB (mP _) hx;have kd:Tj x y < aK:=FB (mP _) (mP _);obtain ⟨b1,b2,b3,b4⟩:=aP4 kd k2;rw [<-dB] at b3 b4;have g15:=bQ kx kz;have g16:=B4 (nbL (mP (xR x y*ziR x y)));have g17:=pW aAw ky;refine aI (zJ tM hy) ?_;refine aI (pW tM hy) ?_;refine aI g3 ?_;refine aI (bQ hx hy) ?_;refine aI (bQ (mP (x*y)) (mP (x*y))) ?_;refine aI g6 ?_;refine aI g7 ?_;rw [<-hI];generalize DZ 1 (Wt x y*(x*y%aK*(x*y%aK)%aK)%aK)=R at *;refine aI g8 ?_;refine aI g9 ?_;refine aI g10 ?_;refine aI g11 ?_;refine aI g12 ?_;refine aI g13 ?_;have m1:=bQ hy aCB;have m2:=bQ hx aCB;have m3:=bQ (mP (AD x y*Wt x y)) (show Ti < aK by decide);generalize nJ x y=B at *;generalize Tj x y=de at *;generalize y2R x y=y2 at *;generalize yR x y=yy at *;generalize xR x y=xx at *;generalize HN x y=rot at *;cases rot
 ·rw [aE] at dx dy dd;rw [aE];subst dx dy dd;refine aI g15 ?_;refine aI g16 ?_;generalize Nat.beq (xx*ziR xx yy%aK%2) 1=od at *;cases od
  ·rw [aE] at dy2;subst dy2;rw [aE];refine aI b1 ?_;refine aI b2 ?_;refine aI b3 ?_;refine aI b4 ?_;rfl
  ·rw [aB] at dy2;subst dy2;rw [aB];refine aI g17 ?_;refine aI b1 ?_;refine aI b2 ?_;refine aI b3 ?_;refine aI b4 ?_;rfl
 ·rw [aB] at dx dy dd;rw [aB];subst dx dy dd;refine aI SE ?_;refine aI m1 ?_;refine aI SE ?_;refine aI m2 ?_;refine aI (aEc (n:=Ti) (by decide +kernel) (by decide +kernel)) ?_;refine aI m3 ?_;refine aI g15 ?_;refine aI g16 ?_;generalize Nat.beq (y*iN%aK*ziR x y%aK%2) 1=od at *;cases od
  ·rw [aE] at dy2;subst dy2;rw [aE];refine aI b1 ?_;refine aI b2 ?_;refine aI b3 ?_;refine aI b4 ?_;rfl
  ·rw [aB] at dy2;subst dy2;rw [aB];refine aI g17 ?_;refine aI b1 ?_;refine aI b2 ?_;refine aI b3 ?_;refine aI b4 ?_;rfl
theorem Tn {p:RP} (h:p.ok):Tl [HC p]=some (lo 32 (nJ (Eg p).1 (Eg p).2)):=aLR (λ r=>lo 32 (nJ (Eg r).1 (Eg r).2)) h
def FT (s:Str):Pt × Int :=
 cond (Nat.beq s.length 64) (Bh (o9 (sT ((s.take 32).map sE))) (o9 (sT ((s.drop 32).map sE))) Fd,0) (dM,4)
def bAW:Summ where
 T:=Pt × Int
 run:=λ
  | [.c (.s (.pl (.str s)))]=>some (FT s)
  | _=>none
 enc:=ePE
def bGD:FA (Pt × Int):=bAW.run
def aHX:Summ where
 T:=Pt
 run:=λ
  | [.c (.s (.pl (.str s)))]=>cond (Nat.beq s.length 32) (some (o9 (sT (s.map sE)))) none
  | _=>none
 enc:=eP
def aWs:FA Pt:=aHX.run
set_option maxRecDepth 4000
theorem aHY {T:Type} {F:List Int->Nat->T} {args:List AV} {t:T} (h:aAu F args=some t):∃ a d,args=[pG a,eN d] /\ dP a=true /\ d < aK /\ t=F a d:=by
 unfold aAu at h;split at h
 ·obtain ⟨h1,h2⟩:=bO h;rw [aW] at h1;obtain ⟨x,rfl,rfl,hx,ex⟩:=k7 h1.2;rw [ex] at h2;exact ⟨_,_,rfl,h1.1,hx,h2.symm⟩
 ·cases h
theorem bAX {T:Type} (F:List Int->Nat->T) {a:List Int} {d:Nat} (h:dP a=true) (hd:d < aK):aAu F [pG a,eN d]=some (F a d):=by
 show cond (dP a && mX (nb d) (nb d).length) (some (F a (vB (nb d)))) none=_;rw [h,k8 hd,gN]; rfl
end
end Go.Eng
