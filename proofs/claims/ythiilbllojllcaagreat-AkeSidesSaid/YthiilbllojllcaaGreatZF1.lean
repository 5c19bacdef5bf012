import Derived.Test.YthiilbllojllcaaGreatPLT
import Derived.Test.YthiilbllojllcaaGreatZS0
namespace Go.Eng
open Go.IntKind (u64 i64 u8)
noncomputable section
set_option linter.unusedVariables false
abbrev aK:Nat:=57896044618658097711785492504343953926634992332820282019728792003956564819949
structure Fe where
 a:Nat
 b:Nat
 c:Nat
 d:Nat
 e:Nat
def fv (x:Fe):Nat:=x.a+2251799813685248*x.b+5070602400912917605986812821504*x.c+11417981541647679048466287755595961091061972992*x.d+25711008708143844408671393477458601640355247900524685364822016*x.e
def fe (n:Nat):Fe:=⟨n%2251799813685248,n / 2251799813685248%2251799813685248,n / 5070602400912917605986812821504%2251799813685248,n / 11417981541647679048466287755595961091061972992%2251799813685248,n / 25711008708143844408671393477458601640355247900524685364822016%2251799813685248⟩
def cS (x:Fe):Prop:=x.a <= 2251799813947392 /\ x.b <= 2251799813947392 /\ x.c <= 2251799813947392 /\ x.d <= 2251799813947392 /\ x.e <= 2251799813947392
def f64 (x:Fe):Prop:=x.a < 18446744073709551616 /\ x.b < 18446744073709551616 /\ x.c < 18446744073709551616 /\ x.d < 18446744073709551616 /\ x.e < 18446744073709551616
def qR (x:Fe):Fe:=⟨x.a%2251799813685248+x.e / 2251799813685248*19,x.b%2251799813685248+x.a / 2251799813685248,x.c%2251799813685248+x.b / 2251799813685248,x.d%2251799813685248+x.c / 2251799813685248,x.e%2251799813685248+x.d / 2251799813685248⟩
theorem Pk {x:Fe} (h:cS x):f64 x:=by
 obtain ⟨h1,h2,h3,h4,h5⟩:=h;refine ⟨?_,?_,?_,?_,?_⟩ <;> omega
theorem KY {x:Fe} (h:f64 x):cS (qR x):=by
 obtain ⟨h1,h2,h3,h4,h5⟩:=h;simp only [cS,qR];refine ⟨?_,?_,?_,?_,?_⟩ <;> omega
theorem aOS (x:Fe):fv (qR x)+aK*(x.e / 2251799813685248)=fv x:=by
 simp only [fv,qR,aK];have ha:=eI x.a 2251799813685248;have hb:=eI x.b 2251799813685248;have hc:=eI x.c 2251799813685248;have hd:=eI x.d 2251799813685248;have he:=eI x.e 2251799813685248;omega
theorem FF (x:Fe):fv (qR x)%aK=fv x%aK:=by
 rw [<-aOS x,DO]
theorem aVS {n:Nat}:(fe n).a < 2251799813685248 /\ (fe n).b < 2251799813685248 /\ (fe n).c < 2251799813685248 /\ (fe n).d < 2251799813685248 /\ (fe n).e < 2251799813685248:=by
 simp only [fe];refine ⟨?_,?_,?_,?_,?_⟩ <;> exact bH _ (by decide)
theorem cA (n:Nat):cS (fe n):=by
 obtain ⟨h1,h2,h3,h4,h5⟩:=@aVS n;refine ⟨?_,?_,?_,?_,?_⟩ <;> omega
theorem dd (n k:Nat):n / k / 2251799813685248=n / (k*2251799813685248):=jE ..
theorem Dq {n:Nat} (h:n < 57896044618658097711785492504343953926634992332820282019728792003956564819968):fv (fe n)=n:=by
 simp only [fv,fe];have e1:=dd n 2251799813685248;have e2:=dd n 5070602400912917605986812821504;have e3:=dd n 11417981541647679048466287755595961091061972992;simp only [Nat.reduceMul] at e1 e2 e3;have h4:n / 25711008708143844408671393477458601640355247900524685364822016 < 2251799813685248:=by omega
 rw [<-e1,<-e2,<-e3] at *;omega
theorem bGs {x:Fe} (h:x.a < 2251799813685248 /\ x.b < 2251799813685248 /\ x.c < 2251799813685248 /\ x.d < 2251799813685248 /\ x.e < 2251799813685248):fe (fv x)=x:=by
 obtain ⟨a,b,c,d,e⟩:=x;obtain ⟨h1,h2,h3,h4,h5⟩:=h;simp only at h1 h2 h3 h4 h5;have e1:=dd (fv ⟨a,b,c,d,e⟩) 2251799813685248;have e2:=dd (fv ⟨a,b,c,d,e⟩) 5070602400912917605986812821504;have e3:=dd (fv ⟨a,b,c,d,e⟩) 11417981541647679048466287755595961091061972992;simp only [Nat.reduceMul] at e1 e2 e3;have g1:fv ⟨a,b,c,d,e⟩ / 2251799813685248=b+2251799813685248*c+5070602400912917605986812821504*d+11417981541647679048466287755595961091061972992*e:=by simp only [fv]; omega
 have g2:fv ⟨a,b,c,d,e⟩ / 5070602400912917605986812821504=c+2251799813685248*d+5070602400912917605986812821504*e:=by rw [<-e1,g1]; omega
 have g3:fv ⟨a,b,c,d,e⟩ / 11417981541647679048466287755595961091061972992=d+2251799813685248*e:=by rw [<-e2,g2]; omega
 have g4:fv ⟨a,b,c,d,e⟩ / 25711008708143844408671393477458601640355247900524685364822016=e:=by rw [<-e3,g3]; omega
 simp only [fe,g1,g2,g3,g4,Fe.mk.injEq];refine ⟨?_,?_,?_,?_,?_⟩
 ·simp only [fv]; omega
 all_goals omega
def gS (x y:Fe):Fe:=qR ⟨x.a+y.a,x.b+y.b,x.c+y.c,x.d+y.d,x.e+y.e⟩
def cQ (x y:Fe):Fe:=qR ⟨x.a+(4503599627370458 - y.a),x.b+(4503599627370494 - y.b),x.c+(4503599627370494 - y.c),x.d+(4503599627370494 - y.d),x.e+(4503599627370494 - y.e)⟩
theorem cT {x y:Fe} (hx:cS x) (hy:cS y):cS (gS x y):=by
 obtain ⟨h1,h2,h3,h4,h5⟩:=hx;obtain ⟨g1,g2,g3,g4,g5⟩:=hy;refine KY ⟨?_,?_,?_,?_,?_⟩ <;> simp only <;> omega
theorem add_mod (x y:Fe):fv (gS x y)%aK=(fv x+fv y)%aK:=by
 rw [gS,FF];congr 1;simp only [fv]; omega
theorem cR {x y:Fe} (hx:cS x):cS (cQ x y):=by
 obtain ⟨h1,h2,h3,h4,h5⟩:=hx;refine KY ⟨?_,?_,?_,?_,?_⟩ <;> simp only <;> omega
theorem Pm {x y:Fe} (hy:cS y):(fv (cQ x y)+fv y)%aK=fv x%aK:=by
 rw [cQ,G7,FF,<-G7];obtain ⟨g1,g2,g3,g4,g5⟩:=hy;have:fv ⟨x.a+(4503599627370458 - y.a),x.b+(4503599627370494 - y.b),x.c+(4503599627370494 - y.c),x.d+(4503599627370494 - y.d),x.e+(4503599627370494 - y.e)⟩+fv y=fv x+aK*2:=by
  simp only [fv,aK]; omega
 rw [this,DO]
def sF0 (x y:Fe):Nat:=x.a*y.a+x.b*(y.e*19)+x.c*(y.d*19)+x.d*(y.c*19)+x.e*(y.b*19)
def sF1 (x y:Fe):Nat:=x.a*y.b+x.b*y.a+x.c*(y.e*19)+x.d*(y.d*19)+x.e*(y.c*19)
def sF2 (x y:Fe):Nat:=x.a*y.c+x.b*y.b+x.c*y.a+x.d*(y.e*19)+x.e*(y.d*19)
def sF3 (x y:Fe):Nat:=x.a*y.d+x.b*y.c+x.c*y.b+x.d*y.a+x.e*(y.e*19)
def XB (x y:Fe):Nat:=x.a*y.e+x.b*y.d+x.c*y.c+x.d*y.b+x.e*y.a
def aN (x y:Fe):Fe:=qR ⟨sF0 x y%2251799813685248+XB x y / 2251799813685248*19,sF1 x y%2251799813685248+sF0 x y / 2251799813685248,sF2 x y%2251799813685248+sF1 x y / 2251799813685248,sF3 x y%2251799813685248+sF2 x y / 2251799813685248,XB x y%2251799813685248+sF3 x y / 2251799813685248⟩
theorem aY4 {a b:Nat} (ha:a <= 2251799813947392) (hb:b <= 42784196465000448):a*b <= 96341445639776675308685928431616:=dC (jT ha hb) (by decide)
theorem aOT {a b:Nat} (ha:a <= 2251799813947392) (hb:b <= 2251799813947392):a*b <= 5070602402093509226772943601664:=dC (jT ha hb) (by decide)
theorem aVT {x y:Fe} (hx:cS x) (hy:cS y):sF0 x y < 649037107316853453566312041152512 /\ sF1 x y < 649037107316853453566312041152512 /\ sF2 x y < 649037107316853453566312041152512 /\ sF3 x y < 649037107316853453566312041152512 /\ XB x y <= 25353012010467546133864718008320:=by
 obtain ⟨h1,h2,h3,h4,h5⟩:=hx;obtain ⟨g1,g2,g3,g4,g5⟩:=hy;have q:∀ {a b:Nat},a <= 2251799813947392->b <= 2251799813947392->a*(b*19) <= 96341445639776675308685928431616:=λ ha hb=>aY4 ha (by omega);have r:∀ {a b:Nat},a <= 2251799813947392->b <= 2251799813947392->a*b <= 5070602402093509226772943601664:=λ ha hb=>aOT ha hb;simp only [sF0,sF1,sF2,sF3,XB];have:=r h1 g1; have:=r h1 g2; have:=r h1 g3; have:=r h1 g4; have:=r h1 g5;have:=r h2 g1; have:=r h2 g2; have:=r h2 g3; have:=r h2 g4; have:=q h2 g5;have:=r h3 g1; have:=r h3 g2; have:=r h3 g3; have:=q h3 g4; have:=q h3 g5;have:=r h4 g1; have:=r h4 g2; have:=q h4 g3; have:=q h4 g4; have:=q h4 g5;have:=r h5 g1; have:=q h5 g2; have:=q h5 g3; have:=q h5 g4; have:=q h5 g5;refine ⟨?_,?_,?_,?_,?_⟩ <;> omega
theorem aL {x y:Fe} (hx:cS x) (hy:cS y):cS (aN x y):=by
 obtain ⟨h1,h2,h3,h4,h5⟩:=aVT hx hy;refine KY ⟨?_,?_,?_,?_,?_⟩ <;> simp only <;> omega
theorem mul_mod (x y:Fe):fv (aN x y)%aK=fv x*fv y%aK:=by
 rw [aN,FF];have e1:fv ⟨sF0 x y%2251799813685248+XB x y / 2251799813685248*19,sF1 x y%2251799813685248+sF0 x y / 2251799813685248,sF2 x y%2251799813685248+sF1 x y / 2251799813685248,sF3 x y%2251799813685248+sF2 x y / 2251799813685248,XB x y%2251799813685248+sF3 x y / 2251799813685248⟩+aK*(XB x y / 2251799813685248)=fv ⟨sF0 x y,sF1 x y,sF2 x y,sF3 x y,XB x y⟩:=by
  simp only [fv,aK];generalize sF0 x y=s0,sF1 x y=s1,sF2 x y=s2,sF3 x y=s3,XB x y=s4;omega
 have e2:fv ⟨sF0 x y,sF1 x y,sF2 x y,sF3 x y,XB x y⟩+aK*(x.b*y.e+x.c*y.d+x.d*y.c+x.e*y.b+2251799813685248*(x.c*y.e+x.d*y.d+x.e*y.c)+5070602400912917605986812821504*(x.d*y.e+x.e*y.d)+11417981541647679048466287755595961091061972992*(x.e*y.e))=fv x*fv y:=by
  simp only [fv,aK,sF0,sF1,sF2,sF3,XB];grind
 rw [<-e2,DO,<-e1,DO]
def FI (x:Fe):Fe:=fe (fv x%57896044618658097711785492504343953926634992332820282019728792003956564819949)
theorem aY5 {v r1 r2 o4 q4:Nat} (s1:v+19=r1+57896044618658097711785492504343953926634992332820282019728792003956564819968*o4) (s2:v+19*o4=r2+57896044618658097711785492504343953926634992332820282019728792003956564819968*q4)
  (l1:r1 < 57896044618658097711785492504343953926634992332820282019728792003956564819968) (l2:r2 < 57896044618658097711785492504343953926634992332820282019728792003956564819968)
  (lv:v < 115792089237316195423570985008687907853269984665640564039457584007913129639898) (b4:o4 <= 1) (e:o4=1->q4=o4):v%aK=r2:=by
 simp only [aK];rcases (by omega:o4=0 ∨ o4=1) with h | h
 ·omega
 ·have:=e h;omega
theorem aG9 {a b c d e o0 o1 o2 o3 o4 q0 q1 q2 q3 q4:Nat} (ha:a <= 2251799813685266) (hb:b <= 2251799813685248) (hc:c <= 2251799813685248) (hd:d <= 2251799813685248) (he:e <= 2251799813685248)
  (h0:o0=(a+19) / 2251799813685248) (h1:o1=(b+o0) / 2251799813685248) (h2:o2=(c+o1) / 2251799813685248) (h3:o3=(d+o2) / 2251799813685248) (h4:o4=(e+o3) / 2251799813685248)
  (g0:q0=(a+19*o4) / 2251799813685248) (g1:q1=(b+q0) / 2251799813685248) (g2:q2=(c+q1) / 2251799813685248) (g3:q3=(d+q2) / 2251799813685248) (g4:q4=(e+q3) / 2251799813685248) :
  fe (fv ⟨a,b,c,d,e⟩%aK)=⟨(a+19*o4)%2251799813685248,(b+q0)%2251799813685248,(c+q1)%2251799813685248,(d+q2)%2251799813685248,(e+q3)%2251799813685248⟩:=by
 rw [<-bGs (x:=⟨(a+19*o4)%2251799813685248,(b+q0)%2251799813685248,(c+q1)%2251799813685248,(d+q2)%2251799813685248,(e+q3)%2251799813685248⟩) ⟨bH _ (by decide),bH _ (by decide),bH _ (by decide),bH _ (by decide),bH _ (by decide)⟩];congr 1;have b0:o0 <= 1:=by omega
 have b1:o1 <= 1:=by omega
 have b2:o2 <= 1:=by omega
 have b3:o3 <= 1:=by omega
 have b4:o4 <= 1:=by omega
 have s1:fv ⟨a,b,c,d,e⟩+19=fv ⟨(a+19)%2251799813685248,(b+o0)%2251799813685248,(c+o1)%2251799813685248,(d+o2)%2251799813685248,(e+o3)%2251799813685248⟩+57896044618658097711785492504343953926634992332820282019728792003956564819968*o4:=by
  simp only [fv]; omega
 have s2:fv ⟨a,b,c,d,e⟩+19*o4=fv ⟨(a+19*o4)%2251799813685248,(b+q0)%2251799813685248,(c+q1)%2251799813685248,(d+q2)%2251799813685248,(e+q3)%2251799813685248⟩+57896044618658097711785492504343953926634992332820282019728792003956564819968*q4:=by
  simp only [fv]; omega
 have lt:∀ u v w x y:Nat,fv ⟨u%2251799813685248,v%2251799813685248,w%2251799813685248,x%2251799813685248,y%2251799813685248⟩ < 57896044618658097711785492504343953926634992332820282019728792003956564819968:=by
  intro u v w x y;simp only [fv]; omega
 have l1:=lt (a+19) (b+o0) (c+o1) (d+o2) (e+o3);have l2:=lt (a+19*o4) (b+q0) (c+q1) (d+q2) (e+q3);have lv:fv ⟨a,b,c,d,e⟩ < 115792089237316195423570985008687907853269984665640564039457584007913129639898:=by simp only [fv]; omega
 refine aY5 s1 s2 l1 l2 lv b4 λ h=>?_;have e0:q0=o0:=by rw [g0,h0,h]
 have e1:q1=o1:=by rw [g1,h1,e0]
 have e2:q2=o2:=by rw [g2,h2,e1]
 have e3:q3=o3:=by rw [g3,h3,e2]
 rw [g4,h4,e3]
theorem aOU {x:Fe} (h:cS x):(qR (qR x)).a <= 2251799813685266 /\ (qR (qR x)).b <= 2251799813685248 /\ (qR (qR x)).c <= 2251799813685248 /\ (qR (qR x)).d <= 2251799813685248 /\ (qR (qR x)).e <= 2251799813685248:=by
 obtain ⟨h1,h2,h3,h4,h5⟩:=KY (Pk h);generalize qR x=y at *;simp only [qR];refine ⟨?_,?_,?_,?_,?_⟩ <;> omega
def DY (x:Fe) (low:Nat):Nat->Fe->Fe
 | 0,o=>o
 | i+1,o=>DY x low i (cond (decide (8 <= i) || Nat.beq (low / 2 ^ i%2) 1) (aN (aN o o) x) (aN o o))
theorem HG {x:Fe} {low:Nat} (hx:cS x):∀ {i:Nat} {o:Fe},cS o->cS (DY x low i o):=by
 intro i
 induction i with
 | zero=>intro o h; exact h
 | succ i ih=>
  intro o h;refine ih ?_;cases (decide (8 <= i) || Nat.beq (low / 2 ^ i%2) 1)
  ·exact aL h h
  ·exact aL (aL h h) hx
open Go Go.Proofs
set_option linter.unusedSimpArgs false
def aHa:FA (Int × Int):=tX.run
def aHb:FA (Int × Int):=lT.run
def eF (x:Fe):AV:=.agg (.ints .u64 [(x.a:Int),(x.b:Int),(x.c:Int),(x.d:Int),(x.e:Int)]) 5
def xA (a b c d e:Int):Bool:=decide (0 <= a /\ a <= 2251799813947392 /\ 0 <= b /\ b <= 2251799813947392 /\ 0 <= c /\ c <= 2251799813947392 /\ 0 <= d /\ d <= 2251799813947392 /\ 0 <= e /\ e <= 2251799813947392)
def inG (a b c d e:Int):Bool:=iV a && iV b && iV c && iV d && iV e
def yD (a b c d e:Int):Fe:=⟨a.toNat,b.toNat,c.toNat,d.toNat,e.toNat⟩
def Aw {T:Type} (F:Fe->T):FA T
 | [.c (.s (.pl (.agg (.ints .u64 [a,b,c,d,e]) 5)))]=>cond (xA a b c d e) (some (F (yD a b c d e))) none
 | _=>none
def aAg {T:Type} (F:Fe->T):FA T
 | [.c (.s (.pl (.agg (.ints .u64 [a,b,c,d,e]) 5)))]=>cond (inG a b c d e) (some (F (yD a b c d e))) none
 | _=>none
def FJ {T:Type} (F:Fe->Fe->T):FA T
 | [.c (.s (.pl (.agg (.ints .u64 [a,b,c,d,e]) 5))),.c (.s (.pl (.agg (.ints .u64 [a',b',c',d',e']) 5)))]=>cond (xA a b c d e && xA a' b' c' d' e') (some (F (yD a b c d e) (yD a' b' c' d' e'))) none
 | _=>none
def aAh:Summ where
 T:=Nat
 run:=λ
  | [.c (.s (.pl (.agg (.ints .u64 [h,l]) 2))),.c (.s (.pl (.int .u64 x))),.c (.s (.pl (.int .u64 y)))]=>
   cond (iV h && iV l && iV x && iV y && Nat.blt (18446744073709551616*h.toNat+l.toNat+x.toNat*y.toNat) 340282366920938463463374607431768211456) (some (18446744073709551616*h.toNat+l.toNat+x.toNat*y.toNat)) none
  | _=>none
 enc:=λ t=>.agg (.ints .u64 [((t / 18446744073709551616:Nat):Int),((t%18446744073709551616:Nat):Int)]) 2
def aHc:FA Nat:=aAh.run
def aAi:Summ where
 T:=Nat × Nat
 run:=λ
  | [.c (.s (.pl (.agg (.ints .u64 [h,l]) 2)))]=>cond (iV h && iV l && decide (h < 2251799813685248)) (some ((18446744073709551616*h.toNat+l.toNat)%2251799813685248,(18446744073709551616*h.toNat+l.toNat) / 2251799813685248)) none
  | _=>none
 enc:=λ t=>.tup [.s (.pl (.int .u64 (t.1:Int))),.s (.pl (.int .u64 (t.2:Int)))]
def aHd:FA (Nat × Nat):=aAi.run
def aOV:Summ where
 T:=Fe
 run:=λ
  | [.c (.s (.pl (.int .u64 n)))]=>cond (iV n) (some (fe n.toNat)) none
  | _=>none
 enc:=eF
def JB:FA Fe:=aOV.run
def aY6:Summ:={ T:=Fe,run:=aAg qR,enc:=eF }
def aD8:FA Fe:=aY6.run
def Pn:Summ:={ T:=Fe,run:=Aw FI,enc:=eF }
def rU:FA Fe:=Pn.run
def aHe:Summ:={ T:=Fe,run:=FJ gS,enc:=eF }
def vU:FA Fe:=aHe.run
def aHf:Summ:={ T:=Fe,run:=FJ cQ,enc:=eF }
def xC:FA Fe:=aHf.run
def f0:Fe:=⟨0,0,0,0,0⟩
def aHg:Summ:={ T:=Fe,run:=Aw λ x=>cQ f0 x,enc:=eF }
def IJ:FA Fe:=aHg.run
def aHh:Summ:={ T:=Fe,run:=FJ aN,enc:=eF }
def iA:FA Fe:=aHh.run
def aY7:Summ:={ T:=Fe,run:=Aw λ x=>aN x x,enc:=eF }
def NQ:FA Fe:=aY7.run
def aOW:Summ where
 T:=Fe
 run:=λ
  | [.c (.s (.pl (.agg (.ints .u64 [a,b,c,d,e]) 5))),.c (.s (.pl (.int .i64 n))),.c (.s (.pl (.int .u64 less)))]=>
   cond (xA a b c d e && decide (0 <= n /\ n <= 255) && decide (0 <= less /\ less <= 256)) (some (DY (yD a b c d e) (256 - less.toNat) n.toNat (fe 1))) none
  | _=>none
 enc:=eF
def aOX:FA Fe:=aOW.run
def vV (x:Fe):Fe:=DY x 235 255 (fe 1)
def N0 (x:Fe):Fe:=DY x 253 252 (fe 1)
def aY8:Summ:={ T:=Fe,run:=Aw vV,enc:=eF }
def aHi:FA Fe:=aY8.run
def XC:Summ:={ T:=Fe,run:=Aw N0,enc:=eF }
def XD:FA Fe:=XC.run
def qS (x:Fe):Bool:=Nat.beq (fv x%aK%2) 1
def aY9:Summ:={ T:=Bool,run:=Aw qS,enc:=λ t=>.bool t }
def aD9:FA Bool:=aY9.run
def FK (x:Fe):Bool:=Nat.beq (fv x%aK) 0
def aZa:Summ:={ T:=Bool,run:=Aw FK,enc:=λ t=>.bool t }
def aOY:FA Bool:=aZa.run
def jW (x y:Fe):Bool:=Nat.beq (fv x%aK) (fv y%aK)
def aZb:Summ:={ T:=Bool,run:=FJ jW,enc:=λ t=>.bool t }
def XE:FA Bool:=aZb.run
def wX (x:Fe):Fe:=cond (qS x) (cQ f0 x) x
def aHj:Summ:={ T:=Fe,run:=Aw wX,enc:=eF }
def IK:FA Fe:=aHj.run
def pG (t:List Int):AV:=.agg (.ints .u8 t) 32
def Po:Summ:={ T:=List Int,run:=Aw λ x=>lo 32 (fv x%aK),enc:=pG }
def Cp:FA (List Int):=Po.run
def aHk:Summ:={ T:=Fe,run:=KS λ a=>fe (val a%aK),enc:=eF }
def N1:FA Fe:=aHk.run
def N2:Summ where
 T:=Fe
 run:=λ
  | [.c (.s (.pl (.str s)))]=>cond (decide (s.length <= 1099511627776)) (some (fe ((z8 s).1%aK))) none
  | _=>none
 enc:=eF
def BO:FA Fe:=N2.run
def dP (a:List Int):Bool:=Nat.beq a.length 32 && kX a
def Ax {T:Type} (F:List Int->T):FA T
 | [.c (.s (.pl (.agg (.ints .u8 a) 32)))]=>cond (dP a) (some (F a)) none
 | _=>none
abbrev FL:Nat:=57896044618658097711785492504343953926634992332820282019728792003956564819968
def sT (a:List Int):Fe:=fe (vB a%57896044618658097711785492504343953926634992332820282019728792003956564819968%aK)
def XF:Summ:={ T:=Fe,run:=Ax sT,enc:=eF }
def Pp:FA Fe:=XF.run
def HH (a:List Int):Fe × Int:=cond (Nat.blt (vB a) aK) (fe (vB a),0) (f0,7)
def JM:Summ:={ T:=Fe × Int,run:=Ax HH,enc:=λ t=>.tup [.s (.pl (.agg (.ints .u64 [(t.1.a:Int),(t.1.b:Int),(t.1.c:Int),(t.1.d:Int),(t.1.e:Int)]) 5)),.s (.pl (.int .i64 t.2))] }
def Pq:FA (Fe × Int):=JM.run
def iF:Fe:=fe 19681161376707505956807079304988542015446066515923890162744021073123829784752
def sFI:Summ where
 T:=Unit
 run:=λ
  | []=>some ()
  | _=>none
 enc:=λ _=>eF iF
def rFI:FA Unit:=sFI.run
def dZ (u v:Fe):Fe:=aN (aN u (aN (aN v v) v)) (N0 (aN u (aN (aN (aN (aN v v) v) (aN (aN v v) v)) v)))
def mC (u v:Fe):Fe × Bool :=
 (wX (cond (jW (aN v (aN (dZ u v) (dZ u v))) (cQ f0 u) || jW (aN v (aN (dZ u v) (dZ u v))) (aN (cQ f0 u) iF)) (aN (dZ u v) iF) (dZ u v)),
  jW (aN v (aN (dZ u v) (dZ u v))) u || jW (aN v (aN (dZ u v) (dZ u v))) (cQ f0 u))
def aAj:Summ:={ T:=Fe × Bool,run:=FJ mC,enc:=λ t=>.tup [.s (.pl (.agg (.ints .u64 [(t.1.a:Int),(t.1.b:Int),(t.1.c:Int),(t.1.d:Int),(t.1.e:Int)]) 5)),.s (.pl (.bool t.2))] }
def KZ:FA (Fe × Bool):=aAj.run
def aHl:Summ where
 T:=Nat
 run:=λ
  | [.c (.s (.pl (.str s)))]=>cond (decide (s.length <= 65536)) (some (cond (yY s) (wW 0 s) 0)) none
  | _=>none
 enc:=eN
def aAk:FA Nat:=aHl.run
def sRP:Summ where
 T:=Nat
 run:=λ
  | []=>some aK
  | _=>none
 enc:=eN
def rRP:FA Nat:=sRP.run
def oO {T:Type} (F:Nat->T) (C:Nat->Bool):FA T
 | [.c (.s (.dat (.ints .i64 a) n 1))]=>cond (NT a n && C (vB a)) (some (F (vB a))) none
 | _=>none
abbrev i9:Nat:=13407807929942597099574024998205846127479365820592393377723561443721764030073546976801874298166903427690031858186486050853753882811946569946433649006084096
def aOZ:Summ:={ T:=Nat,run:=oO (λ x=>x%aK) λ x=>Nat.blt x i9,enc:=eN }
def aHm:FA Nat:=aOZ.run
def aZc:Summ:={ T:=List Int,run:=N8 λ x=>lo 32 x,enc:=pG }
def aO0:FA (List Int):=aZc.run
def bP (x:Nat):Bool:=Nat.blt x aK
def aHn:Summ:={ T:=Nat,run:=A2 (λ a b=>(a+b)%aK) λ a b=>bP a && bP b,enc:=eN }
def IL:FA Nat:=aHn.run
def aHo:Summ:={ T:=Nat,run:=A2 (λ a b=>(a+aK - b)%aK) λ a b=>bP a && bP b,enc:=eN }
def Ay:FA Nat:=aHo.run
def aHp:Summ:={ T:=Nat,run:=A2 (λ a b=>a*b%aK) λ a b=>bP a && bP b,enc:=eN }
def qV:FA Nat:=aHp.run
def aHq:Summ:={ T:=Bool,run:=N8 λ a=>Nat.beq (a%2) 1,enc:=λ t=>.bool t }
def IM:FA Bool:=aHq.run
def q9 (a:Nat):Nat:=cond (Nat.beq (a%2) 1) ((0+aK - a)%aK) a
def aAl:Summ:={ T:=Nat,run:=oO q9 bP,enc:=eN }
def FM:FA Nat:=aAl.run
def aHr:Summ:={ T:=Nat,run:=A2 (λ a e=>a ^ e%aK) λ a _=>bP a,enc:=eN }
def TY:FA Nat:=aHr.run
def aAm:Summ:={ T:=Nat,run:=oO (λ a=>a ^ (aK - 2)%aK) bP,enc:=eN }
def N3:FA Nat:=aAm.run
abbrev iN:Nat:=19681161376707505956807079304988542015446066515923890162744021073123829784752
def sRI:Summ where
 T:=Nat
 run:=λ
  | []=>some iN
  | _=>none
 enc:=eN
def rRI:FA Nat:=sRI.run
def Az (a:Nat):Nat × Bool :=
 if a ^ ((aK+3) / 8)%aK*(a ^ ((aK+3) / 8)%aK)%aK=a then (q9 (a ^ ((aK+3) / 8)%aK),true)
 else (q9 (a ^ ((aK+3) / 8)%aK*iN%aK),decide (a ^ ((aK+3) / 8)%aK*iN%aK*(a ^ ((aK+3) / 8)%aK*iN%aK)%aK=a))
def eNB (t:Nat × Bool):AV:=.tup [.s (.dat (.ints .i64 (nb t.1)) (nb t.1).length 1),.s (.pl (.bool t.2))]
def Ps:Summ:={ T:=Nat × Bool,run:=oO Az bP,enc:=eNB }
def Ka:FA (Nat × Bool):=Ps.run
def DZ (u v:Nat):Nat × Bool :=
 if u=0 then (0,true) else if v=0 then (0,false) else
 if (Az (u*(v ^ (aK - 2)%aK)%aK)).2=true then ((Az (u*(v ^ (aK - 2)%aK)%aK)).1,true) else ((Az (iN*(u*(v ^ (aK - 2)%aK)%aK)%aK)).1,false)
def aHs:Summ:={ T:=Nat × Bool,run:=A2 DZ λ a b=>bP a && bP b,enc:=eNB }
def Kb:FA (Nat × Bool):=aHs.run
section
variable (T0:Type) (R0:FA T0) (aG aO:T0->Int) (T1:Type) (R1:FA T1) (aM bK:T1->Int)
def aVU:Cg:=⟨⟨cV [(114,⟨R0,λ t=>AV.tup [.s (.pl (.int .u64 (aG t))),.s (.pl (.int .u64 (aO t)))]⟩),(115,⟨R1,λ t=>AV.tup [.s (.pl (.int .u64 (aM t))),.s (.pl (.int .u64 (bK t)))]⟩)],[],cX⟩,[]⟩
theorem aZd (fu:Nat) (p0 p1 x y:Int):aS prog Tryz.f72 (aVU T0 R0 aG aO T1 R1 aM bK) fu [aU [p0,p1] 2,.int .u64 x,.int .u64 y]=(R0 [.int .u64 x,.int .u64 y]).bind λ t=>(R1 [.int .u64 p1,.int .u64 (aO t),.int .u64 0]).bind λ bY=>some (AV.agg (.ints .u64 ([u64.wrap (u64.wrap (p0+aG t)+bK bY)]++[aM bY])) 2):=by kernel_rfl
end
def aVV:Cg:=⟨⟨cV [],[],cX⟩,[]⟩
theorem aZe (fu:Nat) (p0 p1:Int):aS prog Tryz.f73 aVV fu [aU [p0,p1] 2]=some (AV.tup [.s (.pl (.int .u64 (fH .u64 p1 2251799813685247))),.s (.pl (.int .u64 (Fv .u64 (mE .u64 p0 13) (eJ .u64 p1 51))))]):=by kernel_rfl
def aVW:Cg:=⟨⟨cV [],[],cX⟩,[]⟩
theorem aZf (fu:Nat) (n:Int):aS prog Tryz.f32 aVW fu [.int .u64 n]=some (aU [fH .u64 n 2251799813685247,eJ .u64 n 51,0,0,0] 5):=by kernel_rfl
def aVX:Cg:=⟨⟨cV [],[],cX⟩,[(4,[1,2,3,8,9],[1,2,3]),(1000004,[6],[]),(9,[1,2,3,18],[1,2,3]),(1000009,[6],[])]⟩
theorem aZg (fu:Nat) (a b c d e:Int):aS prog Tryz.f71 aVX fu [aU [a,b,c,d,e] 5]=some (aU [u64.wrap (fH .u64 a 2251799813685247+u64.wrap (eJ .u64 e 51*19)),u64.wrap (fH .u64 b 2251799813685247+eJ .u64 a 51),u64.wrap (fH .u64 c 2251799813685247+eJ .u64 b 51),u64.wrap (fH .u64 d 2251799813685247+eJ .u64 c 51),u64.wrap (fH .u64 e 2251799813685247+eJ .u64 d 51)] 5):=by kernel_rfl
section
variable (T0:Type) (R0:FA T0) (aG aO cE cI cP:T0->Int)
def uD:Cg:=⟨⟨cV [(71,⟨R0,λ t=>aU [(aG t),(aO t),(cE t),(cI t),(cP t)] 5⟩)],[],cX⟩,[(5,[1,2,3,4],[1,2,3]),(10,[1,2,33],[1,2])]⟩
def yF (v3 v4:Int) (aQ bC:List Int):St:={ tm:=[(1,.s (.ptr 0 0 5)),(2,.s (.ptr 1 0 5)),(3,.int .u64 v3),(4,.int .i64 v4)],hp:=[(0,{ ty:=48,n:=5,row:=Row.t (.ints .u64 aQ) }),(1,{ ty:=48,n:=5,row:=Row.t (.ints .u64 bC) })],nx:=2,sz:=64 }
def EE:Code:=cN (bN [1,1,1,0,1,2] (bB Tryz.f76))
def aHt (fu:Nat):=mD prog (uD T0 R0 aG aO cE cI cP) fu [1,1,1,0,1,2] (bB Tryz.f76) (gI prog Tryz.f76)
abbrev aZh (fu:Nat) (v3 v4:Int) (aQ bC:List Int):=eV prog (uD T0 R0 aG aO cE cI cP) fu EE (aHt T0 R0 aG aO cE cI cP fu ) fu (some (yF v3 v4 aQ bC))
theorem aZi (fu:Nat) (a b c d e:Int):aS prog Tryz.f76 (uD T0 R0 aG aO cE cI cP) fu [aU [a,b,c,d,e] 5]=(R0 [aU [a,b,c,d,e] 5]).bind λ t=>(R0 [aU [aG t,aO t,cE t,cI t,cP t] 5]).bind λ t=>aZh T0 R0 aG aO cE cI cP fu (eJ .u64 (u64.wrap (aG t+19)) 51) 1 [aG t,aO t,cE t,cI t,cP t] [0,0,0,0,0]:=by kernel_rfl
def TZ (v3:Int) (aQ bC:List Int):St:={ tm:=[(1,.s (.ptr 0 0 5)),(2,.s (.ptr 1 0 5)),(3,.int .u64 v3)],hp:=[(0,{ ty:=48,n:=5,row:=Row.t (.ints .u64 aQ) }),(1,{ ty:=48,n:=5,row:=Row.t (.ints .u64 bC) })],nx:=2,sz:=64 }
def yG (v33:Int) (aQ bC:List Int):St:={ tm:=[(1,.s (.ptr 0 0 5)),(2,.s (.ptr 1 0 5)),(33,.int .i64 v33)],hp:=[(0,{ ty:=48,n:=5,row:=Row.t (.ints .u64 aQ) }),(1,{ ty:=48,n:=5,row:=Row.t (.ints .u64 bC) })],nx:=2,sz:=64 }
def HI:Code:=cN (bN [1,1,1,1,1,0,1,2] (bB Tryz.f76))
def aHu (fu:Nat):=mD prog (uD T0 R0 aG aO cE cI cP) fu [1,1,1,1,1,0,1,2] (bB Tryz.f76) (gI prog Tryz.f76)
def Ta (aQ bC:List Int):St:={ tm:=[(1,.s (.ptr 0 0 5)),(2,.s (.ptr 1 0 5))],hp:=[(0,{ ty:=48,n:=5,row:=Row.t (.ints .u64 aQ) }),(1,{ ty:=48,n:=5,row:=Row.t (.ints .u64 bC) })],nx:=2,sz:=64 }
end
section
variable (T0:Type) (R0:FA T0) (aG aO cE cI cP:T0->Int)
def aVY:Cg:=⟨⟨cV [(71,⟨R0,λ t=>aU [(aG t),(aO t),(cE t),(cI t),(cP t)] 5⟩)],[],cX⟩,[(3,[2,3,4,6],[2,4]),(1000003,[6],[])]⟩
theorem aZj (fu:Nat) (a b c d e f g h i j:Int):aS prog Tryz.f28 (aVY T0 R0 aG aO cE cI cP) fu [aU [a,b,c,d,e] 5,aU [f,g,h,i,j] 5]=(R0 [aU [u64.wrap (a+f),u64.wrap (b+g),u64.wrap (c+h),u64.wrap (d+i),u64.wrap (e+j)] 5]).bind λ t=>some (aU [aG t,aO t,cE t,cI t,cP t] 5):=by kernel_rfl
end
section
variable (T0:Type) (R0:FA T0) (aG aO cE cI cP:T0->Int)
def aVZ:Cg:=⟨⟨cV [(71,⟨R0,λ t=>aU [(aG t),(aO t),(cE t),(cI t),(cP t)] 5⟩)],[],cX⟩,[(3,[2,3,4,7],[2,4]),(1000003,[6],[])]⟩
theorem aZk (fu:Nat) (a b c d e f g h i j:Int):aS prog Tryz.f30 (aVZ T0 R0 aG aO cE cI cP) fu [aU [a,b,c,d,e] 5,aU [f,g,h,i,j] 5]=(R0 [aU [u64.wrap (a+u64.wrap (4503599627370458 - f)),u64.wrap (b+u64.wrap (4503599627370494 - g)),u64.wrap (c+u64.wrap (4503599627370494 - h)),u64.wrap (d+u64.wrap (4503599627370494 - i)),u64.wrap (e+u64.wrap (4503599627370494 - j))] 5]).bind λ t=>some (aU [aG t,aO t,cE t,cI t,cP t] 5):=by kernel_rfl
end
section
variable (T0:Type) (R0:FA T0) (aG aO cE cI cP:T0->Int)
def aV0:Cg:=⟨⟨cV [(30,⟨R0,λ t=>aU [(aG t),(aO t),(cE t),(cI t),(cP t)] 5⟩)],[],cX⟩,[]⟩
theorem aZl (fu:Nat) (a b c d e:Int):aS prog Tryz.f37 (aV0 T0 R0 aG aO cE cI cP) fu [aU [a,b,c,d,e] 5]=(R0 [aU [0,0,0,0,0] 5,aU [a,b,c,d,e] 5]).bind λ t=>some (aU [aG t,aO t,cE t,cI t,cP t] 5):=by kernel_rfl
end
section
variable (T0:Type) (R0:FA T0) (aG aO:T0->Int) (T1:Type) (R1:FA T1) (aM bK:T1->Int) (T2:Type) (R2:FA T2) (bE bU fD fJ fM:T2->Int)
def dK:Cg:=⟨⟨cV [(72,⟨R0,λ t=>aU [(aG t),(aO t)] 2⟩),(73,⟨R1,λ t=>AV.tup [.s (.pl (.int .u64 (aM t))),.s (.pl (.int .u64 (bK t)))]⟩),(71,⟨R2,λ t=>aU [(bE t),(bU t),(fD t),(fJ t),(fM t)] 5⟩)],[],cX⟩,[(4,[3,4,5,17,18],[4,5]),(7,[3,4,5,6,7,17,18,23,24],[3,4,5,17,18]),(17,[4,10,11,50,51],[4,10,11]),(1000017,[6],[]),(22,[4,10,66,67],[4,10])]⟩
def tI (x17:List Int) (zZ:Int) (aQ bC dE:List Int):St:={ tm:=[(3,.s (.ptr 0 0 5)),(4,.s (.ptr 1 0 5)),(5,.s (.ptr 2 0 10)),(17,.agg (.ints .u64 x17) 5),(18,.int .i64 zZ)],hp:=[(0,{ ty:=48,n:=5,row:=Row.t (.ints .u64 aQ) }),(1,{ ty:=48,n:=5,row:=Row.t (.ints .u64 bC) }),(2,{ ty:=107,n:=10,row:=Row.t (.ints .u64 dE) })],nx:=3,sz:=89 }
def yH:Code:=cN (bN [1,1,0,1,2] (bB Tryz.f29))
def aHv (fu:Nat):=mD prog (dK T0 R0 aG aO T1 R1 aM bK T2 R2 bE bU fD fJ fM) fu [1,1,0,1,2] (bB Tryz.f29) (gI prog Tryz.f29)
abbrev aZm (fu:Nat) (x17:List Int) (zZ:Int) (aQ bC dE:List Int):=eV prog (dK T0 R0 aG aO T1 R1 aM bK T2 R2 bE bU fD fJ fM) fu yH (aHv T0 R0 aG aO T1 R1 aM bK T2 R2 bE bU fD fJ fM fu ) fu (some (tI x17 zZ aQ bC dE))
theorem aZn (fu:Nat) (a b c d e f g h i j:Int):aS prog Tryz.f29 (dK T0 R0 aG aO T1 R1 aM bK T2 R2 bE bU fD fJ fM) fu [aU [a,b,c,d,e] 5,aU [f,g,h,i,j] 5]=aZm T0 R0 aG aO T1 R1 aM bK T2 R2 bE bU fD fJ fM fu [a,b,c,d,e] 0 [f,g,h,i,j] [0,0,0,0,0] [0,0,0,0,0,0,0,0,0,0]:=by kernel_rfl
def cB (v6 v7:Int) (x17:List Int) (zZ:Int) (x23:List Int) (Wn:Int) (aQ bC dE:List Int):St:={ tm:=[(3,.s (.ptr 0 0 5)),(4,.s (.ptr 1 0 5)),(5,.s (.ptr 2 0 10)),(6,.int .i64 v6),(7,.int .u64 v7),(17,.agg (.ints .u64 x17) 5),(18,.int .i64 zZ),(23,.agg (.ints .u64 x23) 5),(24,.int .i64 Wn)],hp:=[(0,{ ty:=48,n:=5,row:=Row.t (.ints .u64 aQ) }),(1,{ ty:=48,n:=5,row:=Row.t (.ints .u64 bC) }),(2,{ ty:=107,n:=10,row:=Row.t (.ints .u64 dE) })],nx:=3,sz:=89 }
def fA:Code:=cN (bN [1,1,0,1,2,6,1,1,0,2,1,1,2] (bB Tryz.f29))
def yI {β:Type} (fu:Nat) (G:FG β) (H:FH β):=mD prog (dK T0 R0 aG aO T1 R1 aM bK T2 R2 bE bU fD fJ fM) fu [1,1,0,2,1,1,2] yH (wD (dK T0 R0 aG aO T1 R1 aM bK T2 R2 bE bU fD fJ fM) yH G H)
def Tb (aQ bC:List Int):St:={ tm:=[(4,.s (.ptr 0 0 5)),(5,.s (.ptr 1 0 10))],hp:=[(0,{ ty:=48,n:=5,row:=Row.t (.ints .u64 aQ) }),(1,{ ty:=107,n:=10,row:=Row.t (.ints .u64 bC) })],nx:=2,sz:=89 }
def nS (x17:List Int) (zZ:Int) (aQ bC dE:List Int):St:={ tm:=[(3,.s (.ptr 0 0 5)),(4,.s (.ptr 1 0 5)),(5,.s (.ptr 2 0 10)),(17,.agg (.ints .u64 x17) 5),(18,.int .i64 zZ)],hp:=[(0,{ ty:=48,n:=5,row:=Row.t (.ints .u64 aQ) }),(1,{ ty:=48,n:=5,row:=Row.t (.ints .u64 bC) }),(2,{ ty:=107,n:=10,row:=Row.t (.ints .u64 dE) })],nx:=3,sz:=89 }
def tJ (x66:List Int) (v67:Int) (aQ bC:List Int):St:={ tm:=[(4,.s (.ptr 0 0 5)),(10,.s (.ptr 1 0 5)),(66,.agg (.ints .u64 x66) 5),(67,.int .i64 v67)],hp:=[(0,{ ty:=48,n:=5,row:=Row.t (.ints .u64 aQ) }),(1,{ ty:=48,n:=5,row:=Row.t (.ints .u64 bC) })],nx:=2,sz:=89 }
def EF:Code:=cN (bN [1,1,1,1,1,1,0,1,2] (bB Tryz.f29))
def aHw (fu:Nat):=mD prog (dK T0 R0 aG aO T1 R1 aM bK T2 R2 bE bU fD fJ fM) fu [1,1,1,1,1,1,0,1,2] (bB Tryz.f29) (gI prog Tryz.f29)
def Tc (aQ bC:List Int):St:={ tm:=[(4,.s (.ptr 0 0 5)),(10,.s (.ptr 1 0 5))],hp:=[(0,{ ty:=48,n:=5,row:=Row.t (.ints .u64 aQ) }),(1,{ ty:=48,n:=5,row:=Row.t (.ints .u64 bC) })],nx:=2,sz:=89 }
theorem aHx (fu:Nat) (aQ bC:List Int):aHw T0 R0 aG aO T1 R1 aM bK T2 R2 bE bU fD fJ fM fu  (Ex.exit 6) (Tc aQ bC)=(R2 [.agg (.ints .u64 bC) 5]).bind λ t=>some (aU [bE t,bU t,fD t,fJ t,fM t] 5):=by kernel_rfl
end
section
variable (T0:Type) (R0:FA T0) (aG aO cE cI cP:T0->Int)
def aV1:Cg:=⟨⟨cV [(29,⟨R0,λ t=>aU [(aG t),(aO t),(cE t),(cI t),(cP t)] 5⟩)],[],cX⟩,[]⟩
theorem aZo (fu:Nat) (a b c d e:Int):aS prog Tryz.f33 (aV1 T0 R0 aG aO cE cI cP) fu [aU [a,b,c,d,e] 5]=(R0 [aU [a,b,c,d,e] 5,aU [a,b,c,d,e] 5]).bind λ t=>some (aU [aG t,aO t,cE t,cI t,cP t] 5):=by kernel_rfl
end
section
variable (T0:Type) (R0:FA T0) (aG aO cE cI cP:T0->Int) (T1:Type) (R1:FA T1) (aM bK iH iI iP:T1->Int) (T2:Type) (R2:FA T2) (bE bU fD fJ fM:T2->Int)
def Td:Cg:=⟨⟨cV [(32,⟨R0,λ t=>aU [(aG t),(aO t),(cE t),(cI t),(cP t)] 5⟩),(33,⟨R1,λ t=>aU [(aM t),(bK t),(iH t),(iI t),(iP t)] 5⟩),(29,⟨R2,λ t=>aU [(bE t),(bU t),(fD t),(fJ t),(fM t)] 5⟩)],[],cX⟩,[(5,[3,6,7,8,9],[6,7])]⟩
def HJ (v8 v9:Int) (aQ bC dE:List Int):St:={ tm:=[(3,.s (.ptr 0 0 5)),(6,.s (.ptr 1 0 5)),(7,.s (.ptr 2 0 5)),(8,.int .u64 v8),(9,.int .i64 v9)],hp:=[(0,{ ty:=48,n:=5,row:=Row.t (.ints .u64 aQ) }),(1,{ ty:=48,n:=5,row:=Row.t (.ints .u64 bC) }),(2,{ ty:=48,n:=5,row:=Row.t (.ints .u64 dE) })],nx:=3,sz:=34 }
def XG:Code:=cN (bN [1,1,1,0,1,2] (bB Tryz.f113))
def XH (fu:Nat):=mD prog (Td T0 R0 aG aO cE cI cP T1 R1 aM bK iH iI iP T2 R2 bE bU fD fJ fM) fu [1,1,1,0,1,2] (bB Tryz.f113) (gI prog Tryz.f113)
abbrev aZp (fu:Nat) (v8 v9:Int) (aQ bC dE:List Int):=eV prog (Td T0 R0 aG aO cE cI cP T1 R1 aM bK iH iI iP T2 R2 bE bU fD fJ fM) fu XG (XH T0 R0 aG aO cE cI cP T1 R1 aM bK iH iI iP T2 R2 bE bU fD fJ fM fu ) fu (some (HJ v8 v9 aQ bC dE))
theorem aZq (fu:Nat) (a b c d e n l:Int):aS prog Tryz.f113 (Td T0 R0 aG aO cE cI cP T1 R1 aM bK iH iI iP T2 R2 bE bU fD fJ fM) fu [aU [a,b,c,d,e] 5,.int .i64 n,.int .u64 l]=(R0 [.int .u64 1]).bind λ t=>aZp T0 R0 aG aO cE cI cP T1 R1 aM bK iH iI iP T2 R2 bE bU fD fJ fM fu (u64.wrap (256 - l)) (i64.wrap (n - 1)) [a,b,c,d,e] [0,0,0,0,0] [aG t,aO t,cE t,cI t,cP t]:=by kernel_rfl
def Te (aQ bC:List Int):St:={ tm:=[(6,.s (.ptr 0 0 5)),(7,.s (.ptr 1 0 5))],hp:=[(0,{ ty:=48,n:=5,row:=Row.t (.ints .u64 aQ) }),(1,{ ty:=48,n:=5,row:=Row.t (.ints .u64 bC) })],nx:=2,sz:=34 }
theorem aHy {β:Type} (fu:Nat) (G:FG β) (H:FH β) (v8 v9:Int) (aQ bC dE:List Int):fV prog (Td T0 R0 aG aO cE cI cP T1 R1 aM bK iH iI iP T2 R2 bE bU fD fJ fM) fu XG G H (HJ v8 v9 aQ bC dE)=bif decide (0 <= v9) then (R1 [.agg (.ints .u64 dE) 5]).bind λ t=>bif decide (8 <= v9) then (R2 [aU [aM t,bK t,iH t,iI t,iP t] 5,.agg (.ints .u64 aQ) 5]).bind λ t=>G (some (HJ v8 (i64.wrap (v9 - 1)) aQ bC [bE t,bU t,fD t,fJ t,fM t])) else bif decide (v9 < 0) then none else bif decide (fH .u64 (eJ .u64 v8 v9) (1:Int)=1) then (R2 [aU [aM t,bK t,iH t,iI t,iP t] 5,.agg (.ints .u64 aQ) 5]).bind λ t=>G (some (HJ v8 (i64.wrap (v9 - 1)) aQ bC [bE t,bU t,fD t,fJ t,fM t])) else G (some (HJ v8 (i64.wrap (v9 - 1)) aQ bC [aM t,bK t,iH t,iI t,iP t])) else H (Ex.exit 0) (some (Te bC dE)):=by kernel_rfl
theorem aHz (fu:Nat) (aQ bC:List Int):XH T0 R0 aG aO cE cI cP T1 R1 aM bK iH iI iP T2 R2 bE bU fD fJ fM fu  (Ex.exit 0) (Te aQ bC)=some (AV.agg (.ints .u64 bC) 5):=by kernel_rfl
end
section
variable (T0:Type) (R0:FA T0) (aG aO cE cI cP:T0->Int)
def aV2:Cg:=⟨⟨cV [(113,⟨R0,λ t=>aU [(aG t),(aO t),(cE t),(cI t),(cP t)] 5⟩)],[],cX⟩,[]⟩
theorem aZr (fu:Nat) (a b c d e:Int):aS prog Tryz.f68 (aV2 T0 R0 aG aO cE cI cP) fu [aU [a,b,c,d,e] 5]=(R0 [aU [a,b,c,d,e] 5,.int .i64 255,.int .u64 21]).bind λ t=>some (aU [aG t,aO t,cE t,cI t,cP t] 5):=by kernel_rfl
end
section
variable (T0:Type) (R0:FA T0) (aG aO cE cI cP:T0->Int)
def aV3:Cg:=⟨⟨cV [(113,⟨R0,λ t=>aU [(aG t),(aO t),(cE t),(cI t),(cP t)] 5⟩)],[],cX⟩,[]⟩
theorem aZs (fu:Nat) (a b c d e:Int):aS prog Tryz.f74 (aV3 T0 R0 aG aO cE cI cP) fu [aU [a,b,c,d,e] 5]=(R0 [aU [a,b,c,d,e] 5,.int .i64 252,.int .u64 3]).bind λ t=>some (aU [aG t,aO t,cE t,cI t,cP t] 5):=by kernel_rfl
end
section
variable (T0:Type) (R0:FA T0) (aG aO cE cI cP:T0->Int)
def aV4:Cg:=⟨⟨cV [(76,⟨R0,λ t=>aU [(aG t),(aO t),(cE t),(cI t),(cP t)] 5⟩)],[],cX⟩,[]⟩
theorem aZt (fu:Nat) (a b c d e:Int):aS prog Tryz.f34 (aV4 T0 R0 aG aO cE cI cP) fu [aU [a,b,c,d,e] 5]=(R0 [aU [a,b,c,d,e] 5]).bind λ t=>some (AV.bool (decide (fH .u64 (aG t) (1:Int)=1))):=by kernel_rfl
end
section
variable (T0:Type) (R0:FA T0) (aG aO cE cI cP:T0->Int)
def aV5:Cg:=⟨⟨cV [(76,⟨R0,λ t=>aU [(aG t),(aO t),(cE t),(cI t),(cP t)] 5⟩)],[],cX⟩,[]⟩
theorem aZu (fu:Nat) (a b c d e:Int):aS prog Tryz.f165 (aV5 T0 R0 aG aO cE cI cP) fu [aU [a,b,c,d,e] 5]=(R0 [aU [a,b,c,d,e] 5]).bind λ t=>some (AV.bool (decide ([aG t,aO t,cE t,cI t,cP t]=[0,0,0,0,0]))):=by kernel_rfl
end
section
variable (T0:Type) (R0:FA T0) (aG aO cE cI cP:T0->Int)
def aV6:Cg:=⟨⟨cV [(76,⟨R0,λ t=>aU [(aG t),(aO t),(cE t),(cI t),(cP t)] 5⟩)],[],cX⟩,[]⟩
theorem aZv (fu:Nat) (a b c d e f g h i j:Int):aS prog Tryz.f75 (aV6 T0 R0 aG aO cE cI cP) fu [aU [a,b,c,d,e] 5,aU [f,g,h,i,j] 5]=(R0 [aU [a,b,c,d,e] 5]).bind λ t=>(R0 [aU [f,g,h,i,j] 5]).bind λ bY=>some (AV.bool (decide ([aG t,aO t,cE t,cI t,cP t]=[aG bY,aO bY,cE bY,cI bY,cP bY]))):=by kernel_rfl
end
section
variable (T0:Type) (R0:FA T0) (aG:T0->Bool) (T1:Type) (R1:FA T1) (aM bK iH iI iP:T1->Int)
def aV7:Cg:=⟨⟨cV [(34,⟨R0,λ t=>AV.bool (aG t)⟩),(37,⟨R1,λ t=>aU [(aM t),(bK t),(iH t),(iI t),(iP t)] 5⟩)],[],cX⟩,[]⟩
theorem aZw (fu:Nat) (a b c d e:Int):aS prog Tryz.f38 (aV7 T0 R0 aG T1 R1 aM bK iH iI iP) fu [aU [a,b,c,d,e] 5]=(R0 [aU [a,b,c,d,e] 5]).bind λ t=>bif aG t then (R1 [aU [a,b,c,d,e] 5]).bind λ t=>some (aU [aM t,bK t,iH t,iI t,iP t] 5) else some (aU [a,b,c,d,e] 5):=by kernel_rfl
end
section
variable (T0:Type) (R0:FA T0) (aG aO cE cI cP:T0->Int)
def FN:Cg:=⟨⟨cV [(76,⟨R0,λ t=>aU [(aG t),(aO t),(cE t),(cI t),(cP t)] 5⟩)],[],cX⟩,[(4,[2,3,10,11],[2,3]),(7,[2,3,4,5,10,11,15],[2,3,10,11])]⟩
def Kc (x10:List Int) (fN:Int) (aQ bC:List Int):St:={ tm:=[(2,.s (.ptr 0 0 32)),(3,.s (.ptr 1 0 32)),(10,.agg (.ints .u64 x10) 5),(11,.int .i64 fN)],hp:=[(0,{ ty:=23,n:=32,row:=Row.t (.ints .u8 aQ) }),(1,{ ty:=23,n:=32,row:=Row.t (.ints .u8 bC) })],nx:=2,sz:=39 }
def HK:Code:=cN (bN [1,1,0,1,2] (bB Tryz.f39))
def Ke (fu:Nat):=mD prog (FN T0 R0 aG aO cE cI cP) fu [1,1,0,1,2] (bB Tryz.f39) (gI prog Tryz.f39)
abbrev aZx (fu:Nat) (x10:List Int) (fN:Int) (aQ bC:List Int):=eV prog (FN T0 R0 aG aO cE cI cP) fu HK (Ke T0 R0 aG aO cE cI cP fu ) fu (some (Kc x10 fN aQ bC))
theorem aZy (fu:Nat) (a b c d e:Int):aS prog Tryz.f39 (FN T0 R0 aG aO cE cI cP) fu [aU [a,b,c,d,e] 5]=(R0 [aU [a,b,c,d,e] 5]).bind λ t=>aZx T0 R0 aG aO cE cI cP fu [aG t,aO t,cE t,cI t,cP t] 0 [0,0,0,0,0,0,0,0,0,0,0,0,0,0,0,0,0,0,0,0,0,0,0,0,0,0,0,0,0,0,0,0] [0,0,0,0,0,0,0,0,0,0,0,0,0,0,0,0,0,0,0,0,0,0,0,0,0,0,0,0,0,0,0,0]:=by kernel_rfl
def Pu (v4 v5:Int) (x10:List Int) (fN nI:Int) (aQ bC:List Int):St:={ tm:=[(2,.s (.ptr 0 0 32)),(3,.s (.ptr 1 0 32)),(4,.int .i64 v4),(5,.int .u64 v5),(10,.agg (.ints .u64 x10) 5),(11,.int .i64 fN),(15,.int .i64 nI)],hp:=[(0,{ ty:=23,n:=32,row:=Row.t (.ints .u8 aQ) }),(1,{ ty:=23,n:=32,row:=Row.t (.ints .u8 bC) })],nx:=2,sz:=39 }
def XI:Code:=cN (bN [1,1,0,1,2,6,1,1,0,2,1,1,2] (bB Tryz.f39))
def XJ {β:Type} (fu:Nat) (G:FG β) (H:FH β):=mD prog (FN T0 R0 aG aO cE cI cP) fu [1,1,0,2,1,1,2] HK (wD (FN T0 R0 aG aO cE cI cP) HK G H)
abbrev aZz {β:Type} (fu:Nat) (G:FG β) (H:FH β) (v4 v5:Int) (x10:List Int) (fN nI:Int) (aQ bC:List Int):=eV prog (FN T0 R0 aG aO cE cI cP) fu XI (XJ T0 R0 aG aO cE cI cP fu G H) fu (some (Pu v4 v5 x10 fN nI aQ bC))
def Tf (aQ bC:List Int):St:={ tm:=[(2,.s (.ptr 0 0 32)),(3,.s (.ptr 1 0 32))],hp:=[(0,{ ty:=23,n:=32,row:=Row.t (.ints .u8 aQ) }),(1,{ ty:=23,n:=32,row:=Row.t (.ints .u8 bC) })],nx:=2,sz:=39 }
theorem aHA {β:Type} (fu:Nat) (G:FG β) (H:FH β) (x10:List Int) (fN:Int) (aQ bC:List Int):fV prog (FN T0 R0 aG aO cE cI cP) fu HK G H (Kc x10 fN aQ bC)=bif decide (fN < 5) then bif decide (0 <= fN /\ fN < 5) then aZz T0 R0 aG aO cE cI cP fu G H fN (x10.getD fN.toNat 0) x10 fN 0 aQ bC else none else H (Ex.exit 0) (some (Tf aQ bC)):=by kernel_rfl
def Tg (x10:List Int) (fN:Int) (aQ bC:List Int):St:={ tm:=[(2,.s (.ptr 0 0 32)),(3,.s (.ptr 1 0 32)),(10,.agg (.ints .u64 x10) 5),(11,.int .i64 fN)],hp:=[(0,{ ty:=23,n:=32,row:=Row.t (.ints .u8 aQ) }),(1,{ ty:=23,n:=32,row:=Row.t (.ints .u8 bC) })],nx:=2,sz:=39 }
theorem aHB {β:Type} (fu:Nat) (G:FG β) (H:FH β) (v4 v5:Int) (x10:List Int) (fN nI:Int) (aQ bC:List Int):fV prog (FN T0 R0 aG aO cE cI cP) fu XI G H (Pu v4 v5 x10 fN nI aQ bC)=bif decide (nI < 51) then bif decide (0 <= i64.wrap ((i64.wrap (i64.wrap (51*v4)+nI)).tdiv 8) /\ i64.wrap ((i64.wrap (i64.wrap (51*v4)+nI)).tdiv 8) < 32) then bif decide (nI < 0) then none else bif decide ((i64.wrap (i64.wrap (51*v4)+nI)).tmod (8:Int) < 0) then none else bif decide (0 <= i64.wrap ((i64.wrap (i64.wrap (51*v4)+nI)).tdiv 8) /\ i64.wrap ((i64.wrap (i64.wrap (51*v4)+nI)).tdiv 8) < 32) then G (some (Pu v4 v5 x10 fN (i64.wrap (nI+1)) aQ (bC.set (0+(i64.wrap ((i64.wrap (i64.wrap (51*v4)+nI)).tdiv 8)).toNat) (Fv .u8 (bC.getD (0+(i64.wrap ((i64.wrap (i64.wrap (51*v4)+nI)).tdiv 8)).toNat) 0) (mE .u8 (u8.wrap (fH .u64 (eJ .u64 v5 nI) 1)) ((i64.wrap (i64.wrap (51*v4)+nI)).tmod 8)))))) else none else none else H (Ex.exit 2) (some (Tg x10 fN aQ bC)):=by kernel_rfl
theorem aHC (fu:Nat) (aQ bC:List Int):Ke T0 R0 aG aO cE cI cP fu  (Ex.exit 0) (Tf aQ bC)=some (AV.agg (.ints .u8 bC) 32):=by kernel_rfl
theorem aHD {β:Type} (fu:Nat) (G:FG β) (H:FH β) (x10:List Int) (fN:Int) (aQ bC:List Int):XJ T0 R0 aG aO cE cI cP fu G H (Ex.exit 2) (Tg x10 fN aQ bC)=G (some (Kc x10 (i64.wrap (fN+1)) aQ bC)):=by kernel_rfl
end
section
variable (T0:Type) (R0:FA T0) (aG:T0->List Int) (T1:Type) (R1:FA T1) (aM:T1->List Int) (T2:Type) (R2:FA T2) (bE:T2->List Int) (bU:T2->Bool) (T3:Type) (R3:FA T3) (bS eX:T3->List Int) (oL:T3->Int)
def Dr:Cg:=⟨⟨cV [(109,⟨R0,λ t=>AV.agg (.ints .u64 (aG t)) 8⟩),(126,⟨R1,λ t=>AV.agg (.ints .u64 (aM t)) 8⟩),(86,⟨R2,λ t=>AV.tup [.s (.pl (.agg (.ints .u64 (bE t)) 8)),.s (.pl (.bool (bU t)))]⟩),(154,⟨R3,λ t=>AV.tup [.s (.pl (.agg (.ints .u64 (bS t)) 8)),.s (.pl (.agg (.ints .u64 (eX t)) 8)),.s (.pl (.int .i64 (oL t)))]⟩)],[],cX⟩,[(6,[1,2,5,21],[2,5])]⟩
def tK (v21:Int) (aQ bC dE:List Int):St:={ tm:=[(1,.s (.ptr 0 0 8)),(2,.s (.ptr 1 0 5)),(5,.s (.ptr 2 0 5)),(21,.int .i64 v21)],hp:=[(0,{ ty:=27,n:=8,row:=Row.t (.ints .u64 aQ) }),(1,{ ty:=48,n:=5,row:=Row.t (.ints .u64 bC) }),(2,{ ty:=48,n:=5,row:=Row.t (.ints .u64 dE) })],nx:=3,sz:=35 }
def BP:Code:=cN (bN [1,1,1,1,0,1,2] (bB Tryz.f117))
def aHE (fu:Nat):=mD prog (Dr T0 R0 aG T1 R1 aM T2 R2 bE bU T3 R3 bS eX oL) fu [1,1,1,1,0,1,2] (bB Tryz.f117) (gI prog Tryz.f117)
abbrev aZA (fu:Nat) (v21:Int) (aQ bC dE:List Int):=eV prog (Dr T0 R0 aG T1 R1 aM T2 R2 bE bU T3 R3 bS eX oL) fu BP (aHE T0 R0 aG T1 R1 aM T2 R2 bE bU T3 R3 bS eX oL fu ) fu (some (tK v21 aQ bC dE))
theorem aZB (fu:Nat) (a:List Int):aS prog Tryz.f117 (Dr T0 R0 aG T1 R1 aM T2 R2 bE bU T3 R3 bS eX oL) fu [W8 a]=(R0 [.int .u64 1]).bind λ t=>(R1 [.agg (.ints .u64 (aG t)) 8,.int .i64 255]).bind λ t=>(R0 [.int .u64 19]).bind λ bY=>(R2 [.agg (.ints .u64 (aM t)) 8,.agg (.ints .u64 (aG bY)) 8]).bind λ t=>(R3 [.agg (.ints .u64 a) 8,.agg (.ints .u64 (bE t)) 8]).bind λ t=>aZA T0 R0 aG T1 R1 aM T2 R2 bE bU T3 R3 bS eX oL fu 0 (eX t) [0,0,0,0,0] [0,0,0,0,0]:=by kernel_rfl
def Th (aQ bC:List Int):St:={ tm:=[(2,.s (.ptr 0 0 5)),(5,.s (.ptr 1 0 5))],hp:=[(0,{ ty:=48,n:=5,row:=Row.t (.ints .u64 aQ) }),(1,{ ty:=48,n:=5,row:=Row.t (.ints .u64 bC) })],nx:=2,sz:=35 }
theorem aHF (fu:Nat) (aQ bC:List Int):aHE T0 R0 aG T1 R1 aM T2 R2 bE bU T3 R3 bS eX oL fu  (Ex.exit 0) (Th aQ bC)=some (AV.agg (.ints .u64 bC) 5):=by kernel_rfl
end
section
variable (T0:Type) (R0:FA T0) (aG:T0->List Int) (aO:T0->Int) (T1:Type) (R1:FA T1) (aM bK iH iI iP:T1->Int)
def aV8:Cg:=⟨⟨cV [(116,⟨R0,λ t=>AV.tup [.s (.pl (.agg (.ints .u64 (aG t)) 8)),.s (.pl (.int .i64 (aO t)))]⟩),(117,⟨R1,λ t=>aU [(aM t),(bK t),(iH t),(iI t),(iP t)] 5⟩)],[],cX⟩,[]⟩
theorem aZC (fu:Nat) (s:Str):aS prog Tryz.f77 (aV8 T0 R0 aG aO T1 R1 aM bK iH iI iP) fu [.str s]=(R0 [.str s]).bind λ t=>(R1 [.agg (.ints .u64 (aG t)) 8]).bind λ t=>some (aU [aM t,bK t,iH t,iI t,iP t] 5):=by kernel_rfl
end
section
variable (T0:Type) (R0:FA T0) (aG:T0->List Int) (aO:T0->Int) (T1:Type) (R1:FA T1) (aM bK iH iI iP:T1->Int)
def aV9:Cg:=⟨⟨cV [(44,⟨R0,λ t=>AV.tup [.s (.pl (.agg (.ints .u64 (aG t)) 8)),.s (.pl (.int .i64 (aO t)))]⟩),(117,⟨R1,λ t=>aU [(aM t),(bK t),(iH t),(iI t),(iP t)] 5⟩)],[],cX⟩,[]⟩
theorem aZD (fu:Nat) (a:List Int):aS prog Tryz.f188 (aV9 T0 R0 aG aO T1 R1 aM bK iH iI iP) fu [.agg (.ints .u8 a) 32]=(R0 [.str (List.map b8 (List.take 32 (List.drop 0 (a.set 31 (fH .u8 (a.getD 31 0) 127)))))]).bind λ t=>(R1 [.agg (.ints .u64 (aG t)) 8]).bind λ t=>some (aU [aM t,bK t,iH t,iI t,iP t] 5):=by kernel_rfl
end
section
variable (T0:Type) (R0:FA T0) (aG aO cE cI cP:T0->Int) (T1:Type) (R1:FA T1) (aM:T1->List Int)
def aWa:Cg:=⟨⟨cV [(188,⟨R0,λ t=>aU [(aG t),(aO t),(cE t),(cI t),(cP t)] 5⟩),(39,⟨R1,λ t=>AV.agg (.ints .u8 (aM t)) 32⟩)],[],cX⟩,[]⟩
theorem aZE (fu:Nat) (a:List Int):aS prog Tryz.f164 (aWa T0 R0 aG aO cE cI cP T1 R1 aM) fu [.agg (.ints .u8 a) 32]=(R0 [.agg (.ints .u8 a) 32]).bind λ t=>(R1 [aU [aG t,aO t,cE t,cI t,cP t] 5]).bind λ bY=>bif !decide (aM bY=a) then some (AV.tup [.s (.pl (.agg (.ints .u64 [0,0,0,0,0]) 5)),.s (.pl (.int .i64 7))]) else some (AV.tup [.s (.pl (.agg (.ints .u64 [aG t,aO t,cE t,cI t,cP t]) 5)),.s (.pl (.int .i64 0))]):=by kernel_rfl
end
section
variable (T0:Type) (R0:FA T0) (aG aO:T0->Int) (T1:Type) (R1:FA T1) (aM bK:T1->Int) (T2:Type) (R2:FA T2) (bE bU fD fJ fM:T2->Int)
theorem aO1 {β:Type} (fu:Nat) (G:FG β) (H:FH β) (v:Int) (xs zs ys:List Int) (f g h i j s0 s1 s2 s3 s4 s5 s6 s7 s8 s9:Int):fV prog (dK T0 R0 aG aO T1 R1 aM bK T2 R2 bE bU fD fJ fM) fu fA G H (cB 0 v xs 0 [f,g,h,i,j] 0 zs ys [s0,s1,s2,s3,s4,s5,s6,s7,s8,s9]) =
 (R0 [AV.agg (TRow.ints u64 [s0,s1]) 2,AV.int u64 v,AV.int u64 f]).bind λ (t:T0)=>G (some (cB 0 v xs 0 [f,g,h,i,j] 1 zs ys [aG t,aO t,s2,s3,s4,s5,s6,s7,s8,s9])):=by kernel_rfl
theorem aO2 {β:Type} (fu:Nat) (G:FG β) (H:FH β) (v:Int) (xs zs ys:List Int) (f g h i j s0 s1 s2 s3 s4 s5 s6 s7 s8 s9:Int):fV prog (dK T0 R0 aG aO T1 R1 aM bK T2 R2 bE bU fD fJ fM) fu fA G H (cB 0 v xs 0 [f,g,h,i,j] 1 zs ys [s0,s1,s2,s3,s4,s5,s6,s7,s8,s9]) =
 (R0 [AV.agg (TRow.ints u64 [s2,s3]) 2,AV.int u64 v,AV.int u64 g]).bind λ (t:T0)=>G (some (cB 0 v xs 0 [f,g,h,i,j] 2 zs ys [s0,s1,aG t,aO t,s4,s5,s6,s7,s8,s9])):=by kernel_rfl
theorem aO3 {β:Type} (fu:Nat) (G:FG β) (H:FH β) (v:Int) (xs zs ys:List Int) (f g h i j s0 s1 s2 s3 s4 s5 s6 s7 s8 s9:Int):fV prog (dK T0 R0 aG aO T1 R1 aM bK T2 R2 bE bU fD fJ fM) fu fA G H (cB 0 v xs 0 [f,g,h,i,j] 2 zs ys [s0,s1,s2,s3,s4,s5,s6,s7,s8,s9]) =
 (R0 [AV.agg (TRow.ints u64 [s4,s5]) 2,AV.int u64 v,AV.int u64 h]).bind λ (t:T0)=>G (some (cB 0 v xs 0 [f,g,h,i,j] 3 zs ys [s0,s1,s2,s3,aG t,aO t,s6,s7,s8,s9])):=by kernel_rfl
theorem aO4 {β:Type} (fu:Nat) (G:FG β) (H:FH β) (v:Int) (xs zs ys:List Int) (f g h i j s0 s1 s2 s3 s4 s5 s6 s7 s8 s9:Int):fV prog (dK T0 R0 aG aO T1 R1 aM bK T2 R2 bE bU fD fJ fM) fu fA G H (cB 0 v xs 0 [f,g,h,i,j] 3 zs ys [s0,s1,s2,s3,s4,s5,s6,s7,s8,s9]) =
 (R0 [AV.agg (TRow.ints u64 [s6,s7]) 2,AV.int u64 v,AV.int u64 i]).bind λ (t:T0)=>G (some (cB 0 v xs 0 [f,g,h,i,j] 4 zs ys [s0,s1,s2,s3,s4,s5,aG t,aO t,s8,s9])):=by kernel_rfl
theorem aO5 {β:Type} (fu:Nat) (G:FG β) (H:FH β) (v:Int) (xs zs ys:List Int) (f g h i j s0 s1 s2 s3 s4 s5 s6 s7 s8 s9:Int):fV prog (dK T0 R0 aG aO T1 R1 aM bK T2 R2 bE bU fD fJ fM) fu fA G H (cB 0 v xs 0 [f,g,h,i,j] 4 zs ys [s0,s1,s2,s3,s4,s5,s6,s7,s8,s9]) =
 (R0 [AV.agg (TRow.ints u64 [s8,s9]) 2,AV.int u64 v,AV.int u64 j]).bind λ (t:T0)=>G (some (cB 0 v xs 0 [f,g,h,i,j] 5 zs ys [s0,s1,s2,s3,s4,s5,s6,s7,aG t,aO t])):=by kernel_rfl
theorem aZF {β:Type} (fu:Nat) (G:FG β) (H:FH β) (a b c d e:Int) (zs ys ss:List Int):fV prog (dK T0 R0 aG aO T1 R1 aM bK T2 R2 bE bU fD fJ fM) fu yH G H (tI [a,b,c,d,e] 0 zs ys ss) =
 eV prog (dK T0 R0 aG aO T1 R1 aM bK T2 R2 bE bU fD fJ fM) fu fA (yI T0 R0 aG aO T1 R1 aM bK T2 R2 bE bU fD fJ fM fu G H) fu (some (cB 0 a [a,b,c,d,e] 0 zs 0 zs ys ss)):=by kernel_rfl
theorem aZG {β:Type} (fu:Nat) (G:FG β) (H:FH β) (xs zs ys ss:List Int):yI T0 R0 aG aO T1 R1 aM bK T2 R2 bE bU fD fJ fM fu G H (Ex.exit 2) (nS xs 0 zs ys ss) =
 G (some (tI xs 1 zs ys ss)):=by kernel_rfl
theorem aO6 {β:Type} (fu:Nat) (G:FG β) (H:FH β) (v:Int) (xs ys zs ss x23:List Int):fV prog (dK T0 R0 aG aO T1 R1 aM bK T2 R2 bE bU fD fJ fM) fu fA G H (cB 0 v xs 0 x23 5 zs ys ss) =
 H (Ex.exit 2) (some (nS xs 0 zs ys ss)):=by kernel_rfl
theorem aO7 {β:Type} (fu:Nat) (G:FG β) (H:FH β) (v:Int) (xs zs ys:List Int) (f g h i j s0 s1 s2 s3 s4 s5 s6 s7 s8 s9:Int):fV prog (dK T0 R0 aG aO T1 R1 aM bK T2 R2 bE bU fD fJ fM) fu fA G H (cB 1 v xs 1 [f,g,h,i,j] 0 zs ys [s0,s1,s2,s3,s4,s5,s6,s7,s8,s9]) =
 (R0 [AV.agg (TRow.ints u64 [s2,s3]) 2,AV.int u64 v,AV.int u64 f]).bind λ (t:T0)=>G (some (cB 1 v xs 1 [f,g,h,i,j] 1 zs ys [s0,s1,aG t,aO t,s4,s5,s6,s7,s8,s9])):=by kernel_rfl
theorem aO8 {β:Type} (fu:Nat) (G:FG β) (H:FH β) (v:Int) (xs zs ys:List Int) (f g h i j s0 s1 s2 s3 s4 s5 s6 s7 s8 s9:Int):fV prog (dK T0 R0 aG aO T1 R1 aM bK T2 R2 bE bU fD fJ fM) fu fA G H (cB 1 v xs 1 [f,g,h,i,j] 1 zs ys [s0,s1,s2,s3,s4,s5,s6,s7,s8,s9]) =
 (R0 [AV.agg (TRow.ints u64 [s4,s5]) 2,AV.int u64 v,AV.int u64 g]).bind λ (t:T0)=>G (some (cB 1 v xs 1 [f,g,h,i,j] 2 zs ys [s0,s1,s2,s3,aG t,aO t,s6,s7,s8,s9])):=by kernel_rfl
theorem aO9 {β:Type} (fu:Nat) (G:FG β) (H:FH β) (v:Int) (xs zs ys:List Int) (f g h i j s0 s1 s2 s3 s4 s5 s6 s7 s8 s9:Int):fV prog (dK T0 R0 aG aO T1 R1 aM bK T2 R2 bE bU fD fJ fM) fu fA G H (cB 1 v xs 1 [f,g,h,i,j] 2 zs ys [s0,s1,s2,s3,s4,s5,s6,s7,s8,s9]) =
 (R0 [AV.agg (TRow.ints u64 [s6,s7]) 2,AV.int u64 v,AV.int u64 h]).bind λ (t:T0)=>G (some (cB 1 v xs 1 [f,g,h,i,j] 3 zs ys [s0,s1,s2,s3,s4,s5,aG t,aO t,s8,s9])):=by kernel_rfl
theorem aPa {β:Type} (fu:Nat) (G:FG β) (H:FH β) (v:Int) (xs zs ys:List Int) (f g h i j s0 s1 s2 s3 s4 s5 s6 s7 s8 s9:Int):fV prog (dK T0 R0 aG aO T1 R1 aM bK T2 R2 bE bU fD fJ fM) fu fA G H (cB 1 v xs 1 [f,g,h,i,j] 3 zs ys [s0,s1,s2,s3,s4,s5,s6,s7,s8,s9]) =
 (R0 [AV.agg (TRow.ints u64 [s8,s9]) 2,AV.int u64 v,AV.int u64 i]).bind λ (t:T0)=>G (some (cB 1 v xs 1 [f,g,h,i,j] 4 zs ys [s0,s1,s2,s3,s4,s5,s6,s7,aG t,aO t])):=by kernel_rfl
theorem aPb {β:Type} (fu:Nat) (G:FG β) (H:FH β) (v:Int) (xs zs ys:List Int) (f g h i j s0 s1 s2 s3 s4 s5 s6 s7 s8 s9:Int):fV prog (dK T0 R0 aG aO T1 R1 aM bK T2 R2 bE bU fD fJ fM) fu fA G H (cB 1 v xs 1 [f,g,h,i,j] 4 zs ys [s0,s1,s2,s3,s4,s5,s6,s7,s8,s9]) =
 (R0 [AV.agg (TRow.ints u64 [s0,s1]) 2,AV.int u64 v,AV.int u64 (u64.wrap (j*19))]).bind λ (t:T0)=>G (some (cB 1 v xs 1 [f,g,h,i,j] 5 zs ys [aG t,aO t,s2,s3,s4,s5,s6,s7,s8,s9])):=by kernel_rfl
theorem aZH {β:Type} (fu:Nat) (G:FG β) (H:FH β) (a b c d e:Int) (zs ys ss:List Int):fV prog (dK T0 R0 aG aO T1 R1 aM bK T2 R2 bE bU fD fJ fM) fu yH G H (tI [a,b,c,d,e] 1 zs ys ss) =
 eV prog (dK T0 R0 aG aO T1 R1 aM bK T2 R2 bE bU fD fJ fM) fu fA (yI T0 R0 aG aO T1 R1 aM bK T2 R2 bE bU fD fJ fM fu G H) fu (some (cB 1 b [a,b,c,d,e] 1 zs 0 zs ys ss)):=by kernel_rfl
theorem aZI {β:Type} (fu:Nat) (G:FG β) (H:FH β) (xs zs ys ss:List Int):yI T0 R0 aG aO T1 R1 aM bK T2 R2 bE bU fD fJ fM fu G H (Ex.exit 2) (nS xs 1 zs ys ss) =
 G (some (tI xs 2 zs ys ss)):=by kernel_rfl
theorem aPc {β:Type} (fu:Nat) (G:FG β) (H:FH β) (v:Int) (xs ys zs ss x23:List Int):fV prog (dK T0 R0 aG aO T1 R1 aM bK T2 R2 bE bU fD fJ fM) fu fA G H (cB 1 v xs 1 x23 5 zs ys ss) =
 H (Ex.exit 2) (some (nS xs 1 zs ys ss)):=by kernel_rfl
theorem aPd {β:Type} (fu:Nat) (G:FG β) (H:FH β) (v:Int) (xs zs ys:List Int) (f g h i j s0 s1 s2 s3 s4 s5 s6 s7 s8 s9:Int):fV prog (dK T0 R0 aG aO T1 R1 aM bK T2 R2 bE bU fD fJ fM) fu fA G H (cB 2 v xs 2 [f,g,h,i,j] 0 zs ys [s0,s1,s2,s3,s4,s5,s6,s7,s8,s9]) =
 (R0 [AV.agg (TRow.ints u64 [s4,s5]) 2,AV.int u64 v,AV.int u64 f]).bind λ (t:T0)=>G (some (cB 2 v xs 2 [f,g,h,i,j] 1 zs ys [s0,s1,s2,s3,aG t,aO t,s6,s7,s8,s9])):=by kernel_rfl
theorem aPe {β:Type} (fu:Nat) (G:FG β) (H:FH β) (v:Int) (xs zs ys:List Int) (f g h i j s0 s1 s2 s3 s4 s5 s6 s7 s8 s9:Int):fV prog (dK T0 R0 aG aO T1 R1 aM bK T2 R2 bE bU fD fJ fM) fu fA G H (cB 2 v xs 2 [f,g,h,i,j] 1 zs ys [s0,s1,s2,s3,s4,s5,s6,s7,s8,s9]) =
 (R0 [AV.agg (TRow.ints u64 [s6,s7]) 2,AV.int u64 v,AV.int u64 g]).bind λ (t:T0)=>G (some (cB 2 v xs 2 [f,g,h,i,j] 2 zs ys [s0,s1,s2,s3,s4,s5,aG t,aO t,s8,s9])):=by kernel_rfl
theorem aPf {β:Type} (fu:Nat) (G:FG β) (H:FH β) (v:Int) (xs zs ys:List Int) (f g h i j s0 s1 s2 s3 s4 s5 s6 s7 s8 s9:Int):fV prog (dK T0 R0 aG aO T1 R1 aM bK T2 R2 bE bU fD fJ fM) fu fA G H (cB 2 v xs 2 [f,g,h,i,j] 2 zs ys [s0,s1,s2,s3,s4,s5,s6,s7,s8,s9]) =
 (R0 [AV.agg (TRow.ints u64 [s8,s9]) 2,AV.int u64 v,AV.int u64 h]).bind λ (t:T0)=>G (some (cB 2 v xs 2 [f,g,h,i,j] 3 zs ys [s0,s1,s2,s3,s4,s5,s6,s7,aG t,aO t])):=by kernel_rfl
theorem aPg {β:Type} (fu:Nat) (G:FG β) (H:FH β) (v:Int) (xs zs ys:List Int) (f g h i j s0 s1 s2 s3 s4 s5 s6 s7 s8 s9:Int):fV prog (dK T0 R0 aG aO T1 R1 aM bK T2 R2 bE bU fD fJ fM) fu fA G H (cB 2 v xs 2 [f,g,h,i,j] 3 zs ys [s0,s1,s2,s3,s4,s5,s6,s7,s8,s9]) =
 (R0 [AV.agg (TRow.ints u64 [s0,s1]) 2,AV.int u64 v,AV.int u64 (u64.wrap (i*19))]).bind λ (t:T0)=>G (some (cB 2 v xs 2 [f,g,h,i,j] 4 zs ys [aG t,aO t,s2,s3,s4,s5,s6,s7,s8,s9])):=by kernel_rfl
theorem aPh {β:Type} (fu:Nat) (G:FG β) (H:FH β) (v:Int) (xs zs ys:List Int) (f g h i j s0 s1 s2 s3 s4 s5 s6 s7 s8 s9:Int):fV prog (dK T0 R0 aG aO T1 R1 aM bK T2 R2 bE bU fD fJ fM) fu fA G H (cB 2 v xs 2 [f,g,h,i,j] 4 zs ys [s0,s1,s2,s3,s4,s5,s6,s7,s8,s9]) =
 (R0 [AV.agg (TRow.ints u64 [s2,s3]) 2,AV.int u64 v,AV.int u64 (u64.wrap (j*19))]).bind λ (t:T0)=>G (some (cB 2 v xs 2 [f,g,h,i,j] 5 zs ys [s0,s1,aG t,aO t,s4,s5,s6,s7,s8,s9])):=by kernel_rfl
theorem aZJ {β:Type} (fu:Nat) (G:FG β) (H:FH β) (a b c d e:Int) (zs ys ss:List Int):fV prog (dK T0 R0 aG aO T1 R1 aM bK T2 R2 bE bU fD fJ fM) fu yH G H (tI [a,b,c,d,e] 2 zs ys ss) =
 eV prog (dK T0 R0 aG aO T1 R1 aM bK T2 R2 bE bU fD fJ fM) fu fA (yI T0 R0 aG aO T1 R1 aM bK T2 R2 bE bU fD fJ fM fu G H) fu (some (cB 2 c [a,b,c,d,e] 2 zs 0 zs ys ss)):=by kernel_rfl
theorem aZK {β:Type} (fu:Nat) (G:FG β) (H:FH β) (xs zs ys ss:List Int):yI T0 R0 aG aO T1 R1 aM bK T2 R2 bE bU fD fJ fM fu G H (Ex.exit 2) (nS xs 2 zs ys ss) =
 G (some (tI xs 3 zs ys ss)):=by kernel_rfl
theorem aPi {β:Type} (fu:Nat) (G:FG β) (H:FH β) (v:Int) (xs ys zs ss x23:List Int):fV prog (dK T0 R0 aG aO T1 R1 aM bK T2 R2 bE bU fD fJ fM) fu fA G H (cB 2 v xs 2 x23 5 zs ys ss) =
 H (Ex.exit 2) (some (nS xs 2 zs ys ss)):=by kernel_rfl
theorem aPj {β:Type} (fu:Nat) (G:FG β) (H:FH β) (v:Int) (xs zs ys:List Int) (f g h i j s0 s1 s2 s3 s4 s5 s6 s7 s8 s9:Int):fV prog (dK T0 R0 aG aO T1 R1 aM bK T2 R2 bE bU fD fJ fM) fu fA G H (cB 3 v xs 3 [f,g,h,i,j] 0 zs ys [s0,s1,s2,s3,s4,s5,s6,s7,s8,s9]) =
 (R0 [AV.agg (TRow.ints u64 [s6,s7]) 2,AV.int u64 v,AV.int u64 f]).bind λ (t:T0)=>G (some (cB 3 v xs 3 [f,g,h,i,j] 1 zs ys [s0,s1,s2,s3,s4,s5,aG t,aO t,s8,s9])):=by kernel_rfl
theorem aPk {β:Type} (fu:Nat) (G:FG β) (H:FH β) (v:Int) (xs zs ys:List Int) (f g h i j s0 s1 s2 s3 s4 s5 s6 s7 s8 s9:Int):fV prog (dK T0 R0 aG aO T1 R1 aM bK T2 R2 bE bU fD fJ fM) fu fA G H (cB 3 v xs 3 [f,g,h,i,j] 1 zs ys [s0,s1,s2,s3,s4,s5,s6,s7,s8,s9]) =
 (R0 [AV.agg (TRow.ints u64 [s8,s9]) 2,AV.int u64 v,AV.int u64 g]).bind λ (t:T0)=>G (some (cB 3 v xs 3 [f,g,h,i,j] 2 zs ys [s0,s1,s2,s3,s4,s5,s6,s7,aG t,aO t])):=by kernel_rfl
theorem aPl {β:Type} (fu:Nat) (G:FG β) (H:FH β) (v:Int) (xs zs ys:List Int) (f g h i j s0 s1 s2 s3 s4 s5 s6 s7 s8 s9:Int):fV prog (dK T0 R0 aG aO T1 R1 aM bK T2 R2 bE bU fD fJ fM) fu fA G H (cB 3 v xs 3 [f,g,h,i,j] 2 zs ys [s0,s1,s2,s3,s4,s5,s6,s7,s8,s9]) =
 (R0 [AV.agg (TRow.ints u64 [s0,s1]) 2,AV.int u64 v,AV.int u64 (u64.wrap (h*19))]).bind λ (t:T0)=>G (some (cB 3 v xs 3 [f,g,h,i,j] 3 zs ys [aG t,aO t,s2,s3,s4,s5,s6,s7,s8,s9])):=by kernel_rfl
theorem aPm {β:Type} (fu:Nat) (G:FG β) (H:FH β) (v:Int) (xs zs ys:List Int) (f g h i j s0 s1 s2 s3 s4 s5 s6 s7 s8 s9:Int):fV prog (dK T0 R0 aG aO T1 R1 aM bK T2 R2 bE bU fD fJ fM) fu fA G H (cB 3 v xs 3 [f,g,h,i,j] 3 zs ys [s0,s1,s2,s3,s4,s5,s6,s7,s8,s9]) =
 (R0 [AV.agg (TRow.ints u64 [s2,s3]) 2,AV.int u64 v,AV.int u64 (u64.wrap (i*19))]).bind λ (t:T0)=>G (some (cB 3 v xs 3 [f,g,h,i,j] 4 zs ys [s0,s1,aG t,aO t,s4,s5,s6,s7,s8,s9])):=by kernel_rfl
theorem aPn {β:Type} (fu:Nat) (G:FG β) (H:FH β) (v:Int) (xs zs ys:List Int) (f g h i j s0 s1 s2 s3 s4 s5 s6 s7 s8 s9:Int):fV prog (dK T0 R0 aG aO T1 R1 aM bK T2 R2 bE bU fD fJ fM) fu fA G H (cB 3 v xs 3 [f,g,h,i,j] 4 zs ys [s0,s1,s2,s3,s4,s5,s6,s7,s8,s9]) =
 (R0 [AV.agg (TRow.ints u64 [s4,s5]) 2,AV.int u64 v,AV.int u64 (u64.wrap (j*19))]).bind λ (t:T0)=>G (some (cB 3 v xs 3 [f,g,h,i,j] 5 zs ys [s0,s1,s2,s3,aG t,aO t,s6,s7,s8,s9])):=by kernel_rfl
theorem aZL {β:Type} (fu:Nat) (G:FG β) (H:FH β) (a b c d e:Int) (zs ys ss:List Int):fV prog (dK T0 R0 aG aO T1 R1 aM bK T2 R2 bE bU fD fJ fM) fu yH G H (tI [a,b,c,d,e] 3 zs ys ss) =
 eV prog (dK T0 R0 aG aO T1 R1 aM bK T2 R2 bE bU fD fJ fM) fu fA (yI T0 R0 aG aO T1 R1 aM bK T2 R2 bE bU fD fJ fM fu G H) fu (some (cB 3 d [a,b,c,d,e] 3 zs 0 zs ys ss)):=by kernel_rfl
theorem aZM {β:Type} (fu:Nat) (G:FG β) (H:FH β) (xs zs ys ss:List Int):yI T0 R0 aG aO T1 R1 aM bK T2 R2 bE bU fD fJ fM fu G H (Ex.exit 2) (nS xs 3 zs ys ss) =
 G (some (tI xs 4 zs ys ss)):=by kernel_rfl
theorem aPo {β:Type} (fu:Nat) (G:FG β) (H:FH β) (v:Int) (xs ys zs ss x23:List Int):fV prog (dK T0 R0 aG aO T1 R1 aM bK T2 R2 bE bU fD fJ fM) fu fA G H (cB 3 v xs 3 x23 5 zs ys ss) =
 H (Ex.exit 2) (some (nS xs 3 zs ys ss)):=by kernel_rfl
theorem aPp {β:Type} (fu:Nat) (G:FG β) (H:FH β) (v:Int) (xs zs ys:List Int) (f g h i j s0 s1 s2 s3 s4 s5 s6 s7 s8 s9:Int):fV prog (dK T0 R0 aG aO T1 R1 aM bK T2 R2 bE bU fD fJ fM) fu fA G H (cB 4 v xs 4 [f,g,h,i,j] 0 zs ys [s0,s1,s2,s3,s4,s5,s6,s7,s8,s9]) =
 (R0 [AV.agg (TRow.ints u64 [s8,s9]) 2,AV.int u64 v,AV.int u64 f]).bind λ (t:T0)=>G (some (cB 4 v xs 4 [f,g,h,i,j] 1 zs ys [s0,s1,s2,s3,s4,s5,s6,s7,aG t,aO t])):=by kernel_rfl
theorem aPq {β:Type} (fu:Nat) (G:FG β) (H:FH β) (v:Int) (xs zs ys:List Int) (f g h i j s0 s1 s2 s3 s4 s5 s6 s7 s8 s9:Int):fV prog (dK T0 R0 aG aO T1 R1 aM bK T2 R2 bE bU fD fJ fM) fu fA G H (cB 4 v xs 4 [f,g,h,i,j] 1 zs ys [s0,s1,s2,s3,s4,s5,s6,s7,s8,s9]) =
 (R0 [AV.agg (TRow.ints u64 [s0,s1]) 2,AV.int u64 v,AV.int u64 (u64.wrap (g*19))]).bind λ (t:T0)=>G (some (cB 4 v xs 4 [f,g,h,i,j] 2 zs ys [aG t,aO t,s2,s3,s4,s5,s6,s7,s8,s9])):=by kernel_rfl
theorem aPr {β:Type} (fu:Nat) (G:FG β) (H:FH β) (v:Int) (xs zs ys:List Int) (f g h i j s0 s1 s2 s3 s4 s5 s6 s7 s8 s9:Int):fV prog (dK T0 R0 aG aO T1 R1 aM bK T2 R2 bE bU fD fJ fM) fu fA G H (cB 4 v xs 4 [f,g,h,i,j] 2 zs ys [s0,s1,s2,s3,s4,s5,s6,s7,s8,s9]) =
 (R0 [AV.agg (TRow.ints u64 [s2,s3]) 2,AV.int u64 v,AV.int u64 (u64.wrap (h*19))]).bind λ (t:T0)=>G (some (cB 4 v xs 4 [f,g,h,i,j] 3 zs ys [s0,s1,aG t,aO t,s4,s5,s6,s7,s8,s9])):=by kernel_rfl
theorem aPs {β:Type} (fu:Nat) (G:FG β) (H:FH β) (v:Int) (xs zs ys:List Int) (f g h i j s0 s1 s2 s3 s4 s5 s6 s7 s8 s9:Int):fV prog (dK T0 R0 aG aO T1 R1 aM bK T2 R2 bE bU fD fJ fM) fu fA G H (cB 4 v xs 4 [f,g,h,i,j] 3 zs ys [s0,s1,s2,s3,s4,s5,s6,s7,s8,s9]) =
 (R0 [AV.agg (TRow.ints u64 [s4,s5]) 2,AV.int u64 v,AV.int u64 (u64.wrap (i*19))]).bind λ (t:T0)=>G (some (cB 4 v xs 4 [f,g,h,i,j] 4 zs ys [s0,s1,s2,s3,aG t,aO t,s6,s7,s8,s9])):=by kernel_rfl
theorem aPt {β:Type} (fu:Nat) (G:FG β) (H:FH β) (v:Int) (xs zs ys:List Int) (f g h i j s0 s1 s2 s3 s4 s5 s6 s7 s8 s9:Int):fV prog (dK T0 R0 aG aO T1 R1 aM bK T2 R2 bE bU fD fJ fM) fu fA G H (cB 4 v xs 4 [f,g,h,i,j] 4 zs ys [s0,s1,s2,s3,s4,s5,s6,s7,s8,s9]) =
 (R0 [AV.agg (TRow.ints u64 [s6,s7]) 2,AV.int u64 v,AV.int u64 (u64.wrap (j*19))]).bind λ (t:T0)=>G (some (cB 4 v xs 4 [f,g,h,i,j] 5 zs ys [s0,s1,s2,s3,s4,s5,aG t,aO t,s8,s9])):=by kernel_rfl
theorem aZN {β:Type} (fu:Nat) (G:FG β) (H:FH β) (a b c d e:Int) (zs ys ss:List Int):fV prog (dK T0 R0 aG aO T1 R1 aM bK T2 R2 bE bU fD fJ fM) fu yH G H (tI [a,b,c,d,e] 4 zs ys ss) =
 eV prog (dK T0 R0 aG aO T1 R1 aM bK T2 R2 bE bU fD fJ fM) fu fA (yI T0 R0 aG aO T1 R1 aM bK T2 R2 bE bU fD fJ fM fu G H) fu (some (cB 4 e [a,b,c,d,e] 4 zs 0 zs ys ss)):=by kernel_rfl
theorem aZO {β:Type} (fu:Nat) (G:FG β) (H:FH β) (xs zs ys ss:List Int):yI T0 R0 aG aO T1 R1 aM bK T2 R2 bE bU fD fJ fM fu G H (Ex.exit 2) (nS xs 4 zs ys ss) =
 G (some (tI xs 5 zs ys ss)):=by kernel_rfl
theorem aPu {β:Type} (fu:Nat) (G:FG β) (H:FH β) (v:Int) (xs ys zs ss x23:List Int):fV prog (dK T0 R0 aG aO T1 R1 aM bK T2 R2 bE bU fD fJ fM) fu fA G H (cB 4 v xs 4 x23 5 zs ys ss) =
 H (Ex.exit 2) (some (nS xs 4 zs ys ss)):=by kernel_rfl
theorem aZP {β:Type} (fu:Nat) (G:FG β) (H:FH β) (xs zs ys ss:List Int):fV prog (dK T0 R0 aG aO T1 R1 aM bK T2 R2 bE bU fD fJ fM) fu yH G H (tI xs 5 zs ys ss) =
 H (Ex.exit 0) (some (Tb ys ss)):=by kernel_rfl
theorem bGu (fu:Nat) (ys:List Int) (s0 s1 s2 s3 s4 s5 s6 s7 s8 s9:Int):aHv T0 R0 aG aO T1 R1 aM bK T2 R2 bE bU fD fJ fM fu (Ex.exit 0) (Tb ys [s0,s1,s2,s3,s4,s5,s6,s7,s8,s9]) =
 (R1 [AV.agg (TRow.ints u64 [s0,s1]) 2]).bind λ (t:T1)=>
  (R1 [AV.agg (TRow.ints u64 [s2,s3]) 2]).bind λ (bY:T1)=>
   (R1 [AV.agg (TRow.ints u64 [s4,s5]) 2]).bind λ (cJ:T1)=>
    (R1 [AV.agg (TRow.ints u64 [s6,s7]) 2]).bind λ (fF:T1)=>
     (R1 [AV.agg (TRow.ints u64 [s8,s9]) 2]).bind λ (gA:T1)=>
      eV prog (dK T0 R0 aG aO T1 R1 aM bK T2 R2 bE bU fD fJ fM) fu EF (aHw T0 R0 aG aO T1 R1 aM bK T2 R2 bE bU fD fJ fM fu) fu (some (tJ [bK t,bK bY,bK cJ,bK fF,bK gA] 0 ys [aM t,aM bY,aM cJ,aM fF,aM gA])):=by kernel_rfl
theorem aZQ {β:Type} (fu:Nat) (G:FG β) (H:FH β) (xs:List Int) (u0 u1 u2 u3 u4 o0 o1 o2 o3 o4:Int):fV prog (dK T0 R0 aG aO T1 R1 aM bK T2 R2 bE bU fD fJ fM) fu EF G H (tJ [u0,u1,u2,u3,u4] 0 xs [o0,o1,o2,o3,o4]) =
 G (some (tJ [u0,u1,u2,u3,u4] 1 xs [o0,u64.wrap (o1+u0),o2,o3,o4])):=by kernel_rfl
theorem aZR {β:Type} (fu:Nat) (G:FG β) (H:FH β) (xs:List Int) (u0 u1 u2 u3 u4 o0 o1 o2 o3 o4:Int):fV prog (dK T0 R0 aG aO T1 R1 aM bK T2 R2 bE bU fD fJ fM) fu EF G H (tJ [u0,u1,u2,u3,u4] 1 xs [o0,o1,o2,o3,o4]) =
 G (some (tJ [u0,u1,u2,u3,u4] 2 xs [o0,o1,u64.wrap (o2+u1),o3,o4])):=by kernel_rfl
theorem aZS {β:Type} (fu:Nat) (G:FG β) (H:FH β) (xs:List Int) (u0 u1 u2 u3 u4 o0 o1 o2 o3 o4:Int):fV prog (dK T0 R0 aG aO T1 R1 aM bK T2 R2 bE bU fD fJ fM) fu EF G H (tJ [u0,u1,u2,u3,u4] 2 xs [o0,o1,o2,o3,o4]) =
 G (some (tJ [u0,u1,u2,u3,u4] 3 xs [o0,o1,o2,u64.wrap (o3+u2),o4])):=by kernel_rfl
theorem aZT {β:Type} (fu:Nat) (G:FG β) (H:FH β) (xs:List Int) (u0 u1 u2 u3 u4 o0 o1 o2 o3 o4:Int):fV prog (dK T0 R0 aG aO T1 R1 aM bK T2 R2 bE bU fD fJ fM) fu EF G H (tJ [u0,u1,u2,u3,u4] 3 xs [o0,o1,o2,o3,o4]) =
 G (some (tJ [u0,u1,u2,u3,u4] 4 xs [o0,o1,o2,o3,u64.wrap (o4+u3)])):=by kernel_rfl
theorem aZU {β:Type} (fu:Nat) (G:FG β) (H:FH β) (xs:List Int) (u0 u1 u2 u3 u4 o0 o1 o2 o3 o4:Int):fV prog (dK T0 R0 aG aO T1 R1 aM bK T2 R2 bE bU fD fJ fM) fu EF G H (tJ [u0,u1,u2,u3,u4] 4 xs [o0,o1,o2,o3,o4]) =
 G (some (tJ [u0,u1,u2,u3,u4] 5 xs [u64.wrap (o0+u64.wrap (u4*19)),o1,o2,o3,o4])):=by kernel_rfl
theorem aZV {β:Type} (fu:Nat) (G:FG β) (H:FH β) (xs us os:List Int):fV prog (dK T0 R0 aG aO T1 R1 aM bK T2 R2 bE bU fD fJ fM) fu EF G H (tJ us 5 xs os) =
 H (Ex.exit 6) (some (Tc xs os)):=by kernel_rfl
end
section
variable (T0:Type) (R0:FA T0) (aG aO cE cI cP:T0->Int)
theorem aZW {β:Type} (fu:Nat) (G:FG β) (H:FH β) (v o0 o1 o2 o3 o4:Int) (ys:List Int):fV prog (uD T0 R0 aG aO cE cI cP) fu EE G H (yF v 1 [o0,o1,o2,o3,o4] ys) =
 G (some (yF (eJ u64 (u64.wrap (o1+v)) 51) 2 [o0,o1,o2,o3,o4] ys)):=by kernel_rfl
theorem aZX {β:Type} (fu:Nat) (G:FG β) (H:FH β) (v o0 o1 o2 o3 o4:Int) (ys:List Int):fV prog (uD T0 R0 aG aO cE cI cP) fu EE G H (yF v 2 [o0,o1,o2,o3,o4] ys) =
 G (some (yF (eJ u64 (u64.wrap (o2+v)) 51) 3 [o0,o1,o2,o3,o4] ys)):=by kernel_rfl
theorem aZY {β:Type} (fu:Nat) (G:FG β) (H:FH β) (v o0 o1 o2 o3 o4:Int) (ys:List Int):fV prog (uD T0 R0 aG aO cE cI cP) fu EE G H (yF v 3 [o0,o1,o2,o3,o4] ys) =
 G (some (yF (eJ u64 (u64.wrap (o3+v)) 51) 4 [o0,o1,o2,o3,o4] ys)):=by kernel_rfl
theorem aZZ {β:Type} (fu:Nat) (G:FG β) (H:FH β) (v o0 o1 o2 o3 o4:Int) (ys:List Int):fV prog (uD T0 R0 aG aO cE cI cP) fu EE G H (yF v 4 [o0,o1,o2,o3,o4] ys) =
 G (some (yF (eJ u64 (u64.wrap (o4+v)) 51) 5 [o0,o1,o2,o3,o4] ys)):=by kernel_rfl
theorem aZ1 {β:Type} (fu:Nat) (G:FG β) (H:FH β) (v:Int) (xs ys:List Int):fV prog (uD T0 R0 aG aO cE cI cP) fu EE G H (yF v 5 xs ys) =
 H (Ex.exit 0) (some (TZ v xs ys)):=by kernel_rfl
theorem aZ2 {β:Type} (fu:Nat) (G:FG β) (H:FH β) (o0 o1 o2 o3 o4:Int) (ys:List Int):fV prog (uD T0 R0 aG aO cE cI cP) fu HI G H (yG 0 [o0,o1,o2,o3,o4] ys) =
 G (some (yG 1 [fH u64 o0 2251799813685247,u64.wrap (o1+eJ u64 o0 51),o2,o3,o4] ys)):=by kernel_rfl
theorem aZ3 {β:Type} (fu:Nat) (G:FG β) (H:FH β) (o0 o1 o2 o3 o4:Int) (ys:List Int):fV prog (uD T0 R0 aG aO cE cI cP) fu HI G H (yG 1 [o0,o1,o2,o3,o4] ys) =
 G (some (yG 2 [o0,fH u64 o1 2251799813685247,u64.wrap (o2+eJ u64 o1 51),o3,o4] ys)):=by kernel_rfl
theorem aZ4 {β:Type} (fu:Nat) (G:FG β) (H:FH β) (o0 o1 o2 o3 o4:Int) (ys:List Int):fV prog (uD T0 R0 aG aO cE cI cP) fu HI G H (yG 2 [o0,o1,o2,o3,o4] ys) =
 G (some (yG 3 [o0,o1,fH u64 o2 2251799813685247,u64.wrap (o3+eJ u64 o2 51),o4] ys)):=by kernel_rfl
theorem aZ5 {β:Type} (fu:Nat) (G:FG β) (H:FH β) (o0 o1 o2 o3 o4:Int) (ys:List Int):fV prog (uD T0 R0 aG aO cE cI cP) fu HI G H (yG 3 [o0,o1,o2,o3,o4] ys) =
 G (some (yG 4 [o0,o1,o2,fH u64 o3 2251799813685247,u64.wrap (o4+eJ u64 o3 51)] ys)):=by kernel_rfl
theorem bGv (fu:Nat) (v o0 o1 o2 o3 o4:Int) (ys:List Int):aHt T0 R0 aG aO cE cI cP fu (Ex.exit 0) (TZ v [o0,o1,o2,o3,o4] ys) =
 eV prog (uD T0 R0 aG aO cE cI cP) fu HI (aHu T0 R0 aG aO cE cI cP fu) fu (some (yG 0 [u64.wrap (o0+u64.wrap (19*v)),o1,o2,o3,o4] ys)):=by kernel_rfl
theorem bGw (fu:Nat) (o0 o1 o2 o3 o4:Int) (ys:List Int):aHu T0 R0 aG aO cE cI cP fu (Ex.exit 2) (Ta [o0,o1,o2,o3,o4] ys) =
 some (AV.agg (TRow.ints u64 [o0,o1,o2,o3,fH u64 o4 2251799813685247]) 5):=by kernel_rfl
theorem aZ6 {β:Type} (fu:Nat) (G:FG β) (H:FH β) (xs ys:List Int):fV prog (uD T0 R0 aG aO cE cI cP) fu HI G H (yG 4 xs ys) =
 H (Ex.exit 2) (some (Ta xs ys)):=by kernel_rfl
end
section
variable (T0:Type) (R0:FA T0) (aG:T0->List Int) (T1:Type) (R1:FA T1) (aM:T1->List Int) (T2:Type) (R2:FA T2) (bE:T2->List Int) (bU:T2->Bool) (T3:Type) (R3:FA T3) (bS eX:T3->List Int) (oL:T3->Int)
theorem aZ7 {β:Type} (fu:Nat) (G:FG β) (H:FH β) (xs ys:List Int) (o0 o1 o2 o3 o4:Int):fV prog (Dr T0 R0 aG T1 R1 aM T2 R2 bE bU T3 R3 bS eX oL) fu BP G H (tK 0 xs ys [o0,o1,o2,o3,o4]) =
 (R1 [AV.agg (TRow.ints u64 xs) 8,AV.int i64 (0)]).bind λ (t:T1)=>G (some (tK 1 xs ys [fH u64 ((aM t).getD 0 0) 2251799813685247,o1,o2,o3,o4])):=by kernel_rfl
theorem aZ8 {β:Type} (fu:Nat) (G:FG β) (H:FH β) (xs ys:List Int) (o0 o1 o2 o3 o4:Int):fV prog (Dr T0 R0 aG T1 R1 aM T2 R2 bE bU T3 R3 bS eX oL) fu BP G H (tK 1 xs ys [o0,o1,o2,o3,o4]) =
 (R1 [AV.agg (TRow.ints u64 xs) 8,AV.int i64 (-51)]).bind λ (t:T1)=>G (some (tK 2 xs ys [o0,fH u64 ((aM t).getD 0 0) 2251799813685247,o2,o3,o4])):=by kernel_rfl
theorem aZ9 {β:Type} (fu:Nat) (G:FG β) (H:FH β) (xs ys:List Int) (o0 o1 o2 o3 o4:Int):fV prog (Dr T0 R0 aG T1 R1 aM T2 R2 bE bU T3 R3 bS eX oL) fu BP G H (tK 2 xs ys [o0,o1,o2,o3,o4]) =
 (R1 [AV.agg (TRow.ints u64 xs) 8,AV.int i64 (-102)]).bind λ (t:T1)=>G (some (tK 3 xs ys [o0,o1,fH u64 ((aM t).getD 0 0) 2251799813685247,o3,o4])):=by kernel_rfl
theorem bAa {β:Type} (fu:Nat) (G:FG β) (H:FH β) (xs ys:List Int) (o0 o1 o2 o3 o4:Int):fV prog (Dr T0 R0 aG T1 R1 aM T2 R2 bE bU T3 R3 bS eX oL) fu BP G H (tK 3 xs ys [o0,o1,o2,o3,o4]) =
 (R1 [AV.agg (TRow.ints u64 xs) 8,AV.int i64 (-153)]).bind λ (t:T1)=>G (some (tK 4 xs ys [o0,o1,o2,fH u64 ((aM t).getD 0 0) 2251799813685247,o4])):=by kernel_rfl
theorem bAb {β:Type} (fu:Nat) (G:FG β) (H:FH β) (xs ys:List Int) (o0 o1 o2 o3 o4:Int):fV prog (Dr T0 R0 aG T1 R1 aM T2 R2 bE bU T3 R3 bS eX oL) fu BP G H (tK 4 xs ys [o0,o1,o2,o3,o4]) =
 (R1 [AV.agg (TRow.ints u64 xs) 8,AV.int i64 (-204)]).bind λ (t:T1)=>G (some (tK 5 xs ys [o0,o1,o2,o3,fH u64 ((aM t).getD 0 0) 2251799813685247])):=by kernel_rfl
theorem bAc {β:Type} (fu:Nat) (G:FG β) (H:FH β) (xs ys zs:List Int):fV prog (Dr T0 R0 aG T1 R1 aM T2 R2 bE bU T3 R3 bS eX oL) fu BP G H (tK 5 xs ys zs) =
 H (Ex.exit 0) (some (Th ys zs)):=by kernel_rfl
end
set_option maxRecDepth 4000
theorem aHG {T:Type} {F:Fe->T} {args:List AV} {t:T} (h:aAg F args=some t):∃ x,args=[eF x] /\ f64 x /\ t=F x:=by
 unfold aAg at h;split at h
 ·rename_i a b c d e;obtain ⟨h1,h2⟩:=bO h;simp only [inG,iV,aW,bJ] at h1;obtain ⟨⟨⟨⟨⟨a0,a1⟩,b0,b1⟩,c0,c1⟩,d0,d1⟩,e0,e1⟩:=h1;obtain ⟨a,rfl⟩:=bZ a0;obtain ⟨b,rfl⟩:=bZ b0;obtain ⟨c,rfl⟩:=bZ c0;obtain ⟨d,rfl⟩:=bZ d0;obtain ⟨e,rfl⟩:=bZ e0;exact ⟨⟨a,b,c,d,e⟩,rfl,⟨by simp only; omega,by simp only; omega,by simp only; omega,by simp only; omega,by simp only; omega⟩,h2.symm⟩
 ·cases h
theorem eO {a b c d e:Int} (h:xA a b c d e=true):∃ x:Fe,a=x.a /\ b=x.b /\ c=x.c /\ d=x.d /\ e=x.e /\ cS x /\ yD a b c d e=x:=by
 simp only [xA,bJ] at h;obtain ⟨a0,a1,b0,b1,c0,c1,d0,d1,e0,e1⟩:=h;obtain ⟨a,rfl⟩:=bZ a0;obtain ⟨b,rfl⟩:=bZ b0;obtain ⟨c,rfl⟩:=bZ c0;obtain ⟨d,rfl⟩:=bZ d0;obtain ⟨e,rfl⟩:=bZ e0;exact ⟨⟨a,b,c,d,e⟩,rfl,rfl,rfl,rfl,rfl,⟨by simp only; omega,by simp only; omega,by simp only; omega,by simp only; omega,by simp only; omega⟩,rfl⟩
theorem pJ {T:Type} {F:Fe->T} {args:List AV} {t:T} (h:Aw F args=some t):∃ x,args=[eF x] /\ cS x /\ t=F x:=by
 unfold Aw at h;split at h
 ·obtain ⟨h1,h2⟩:=bO h;obtain ⟨x,rfl,rfl,rfl,rfl,rfl,hx,ex⟩:=eO h1;exact ⟨x,rfl,hx,by rw [<-h2,ex]⟩
 ·cases h
theorem y5 {T:Type} {F:Fe->Fe->T} {args:List AV} {t:T} (h:FJ F args=some t):∃ x y,args=[eF x,eF y] /\ cS x /\ cS y /\ t=F x y:=by
 unfold FJ at h;split at h
 ·obtain ⟨h1,h2⟩:=bO h;rw [aW] at h1;obtain ⟨x,rfl,rfl,rfl,rfl,rfl,hx,ex⟩:=eO h1.1;obtain ⟨y,rfl,rfl,rfl,rfl,rfl,hy,ey⟩:=eO h1.2;exact ⟨x,y,rfl,hx,hy,by rw [<-h2,ex,ey]⟩
 ·cases h
theorem eQ {x:Fe} (h:cS x):xA x.a x.b x.c x.d x.e=true:=by
 obtain ⟨h1,h2,h3,h4,h5⟩:=h;simp only [xA,bJ];omega
theorem AA {T:Type} (F:Fe->T) {x:Fe} (h:cS x):Aw F [eF x]=some (F x):=by
 show cond (xA x.a x.b x.c x.d x.e) (some (F (yD x.a x.b x.c x.d x.e))) none=_;rw [eQ h]; rfl
theorem HL {T:Type} (F:Fe->Fe->T) {x y:Fe} (h:cS x) (h2:cS y):FJ F [eF x,eF y]=some (F x y):=by
 show cond (xA x.a x.b x.c x.d x.e && xA y.a y.b y.c y.d y.e) (some (F (yD x.a x.b x.c x.d x.e) (yD y.a y.b y.c y.d y.e))) none=_;rw [eQ h,eQ h2]; rfl
theorem A0 {n:Nat} (h:n < 18446744073709551616):iV (n:Int)=true:=aD (by omega)
theorem bAd {T:Type} (F:Fe->T) {x:Fe} (h:f64 x):aAg F [eF x]=some (F x):=by
 obtain ⟨h1,h2,h3,h4,h5⟩:=h;show cond (inG x.a x.b x.c x.d x.e) (some (F (yD x.a x.b x.c x.d x.e))) none=_;rw [inG,A0 h1,A0 h2,A0 h3,A0 h4,A0 h5]; rfl
theorem msk (x:Nat) (h:x < 18446744073709551616):fH .u64 (x:Int) 2251799813685247=((x%2251799813685248:Nat):Int):=by
 rw [show (2251799813685247:Int)=((2251799813685247:Nat):Int) from rfl,Gx x _ h (by omega),show (2251799813685247:Nat)=2 ^ 51 - 1 from rfl,TE]
theorem Da (x:Nat):eJ .u64 (x:Int) 51=((x / 2251799813685248:Nat):Int):=pF x 51 (by omega)
theorem aAn {x:Nat} (h:x < 18446744073709551616):u64.wrap (x:Int)=x:=Zf (by omega) (by omega)
theorem tL {u v:Nat} (h:u+v < 18446744073709551616):u64.wrap ((u:Int)+(v:Int))=((u+v:Nat):Int):=by
 rw [<-iE]; exact aAn h
theorem w19 {u:Nat} (h:u*19 < 18446744073709551616):u64.wrap ((u:Int)*19)=((u*19:Nat):Int):=by
 rw [show (19:Int)=((19:Nat):Int) from rfl,<-qG]; exact aAn h
abbrev bAe:Cg:=aVU (Int × Int) aHa (λ t=>t.fst) (λ t=>t.snd) (Int × Int) aHb (λ t=>t.fst) (λ t=>t.snd)
theorem aPv:CfOk prog bAe.c:=gk <| aA Wa <| aA Mr <| aH
theorem aPw:CallOk prog 72 aAh:=by
 refine fO aPv Tryz.func72 ?_;intro args t ht;unfold aAh at ht;simp only at ht;split at ht
 ·rename_i h l x y;obtain ⟨h1,h2⟩:=bO ht;simp only [aW,iV,bJ] at h1;obtain ⟨⟨⟨⟨⟨a0,a1⟩,b0,b1⟩,c0,c1⟩,d0,d1⟩,e1⟩:=h1;have e1:=cY.mp e1;obtain ⟨h,rfl⟩:=bZ a0;obtain ⟨l,rfl⟩:=bZ b0;obtain ⟨x,rfl⟩:=bZ c0;obtain ⟨y,rfl⟩:=bZ d0;simp only [bD] at h2 e1;subst h2;refine (aZd ..).trans ?_;rw [show aHa [.int .u64 (x:Int),.int .u64 (y:Int)]=_ from H5 x y (by omega) (by omega),aC,show aHb [.int .u64 (l:Int),.int .u64 ((x*y%18446744073709551616:Nat):Int),.int .u64 0]=_ from Iz l (x*y%18446744073709551616) (by omega) (bH _ (by decide)),aC];generalize hP:x*y=p at *;have hw:u64.wrap (u64.wrap ((h:Int)+((p / 18446744073709551616:Nat):Int))+(((l+p%18446744073709551616) / 18446744073709551616:Nat):Int))=(((18446744073709551616*h+l+p) / 18446744073709551616:Nat):Int):=by
   rw [Zf (n:=(h:Int)+((p / 18446744073709551616:Nat):Int)) (by omega) (by omega),Zf (by omega) (by omega)];omega
  have hl:(((l+p%18446744073709551616)%18446744073709551616:Nat):Int)=(((18446744073709551616*h+l+p)%18446744073709551616:Nat):Int):=by omega
  show some (AV.agg (TRow.ints u64 [u64.wrap (u64.wrap ((h:Int)+((p / 18446744073709551616:Nat):Int))+(((l+p%18446744073709551616) / 18446744073709551616:Nat):Int)),(((l+p%18446744073709551616)%18446744073709551616:Nat):Int)]) 2)=some (AV.agg (TRow.ints u64 [_,_]) 2);rw [hw,hl]
 ·cases ht
theorem d8 {s x y:Nat} (hs:s < 1329227995784915872903807060280344576) (hx:x < 18446744073709551616) (hy:y < 18446744073709551616) (h:x*y < 1329227995784915872903807060280344576) :
  aHc [.agg (.ints .u64 [((s / 18446744073709551616:Nat):Int),((s%18446744073709551616:Nat):Int)]) 2,.int .u64 (x:Int),.int .u64 (y:Int)]=some (s+x*y):=by
 have e:18446744073709551616*(s / 18446744073709551616)+s%18446744073709551616=s:=eI ..;simp only [aHc,aAh,bD];rw [A0 (by omega),A0 (by omega),A0 hx,A0 hy,e,cY.mpr (by omega)]; rfl
abbrev bAf:Cg:=aVV 
theorem aPx:CfOk prog bAf.c:=gk <| aH
theorem aPy:CallOk prog 73 aAi:=by
 refine fO aPx Tryz.func73 ?_;intro args t ht;unfold aAi at ht;simp only at ht;split at ht
 ·rename_i h l;obtain ⟨h1,h2⟩:=bO ht;simp only [aW,iV,bJ] at h1;obtain ⟨⟨⟨a0,a1⟩,b0,b1⟩,e1⟩:=h1;obtain ⟨h,rfl⟩:=bZ a0;obtain ⟨l,rfl⟩:=bZ b0;simp only [bD] at h2 e1;subst h2;refine (aZe ..).trans ?_;have hs:mE .u64 (h:Int) 13=((h*8192:Nat):Int):=by
   have:=Gw h 13 (by omega);rw [show ((13:Nat):Int)=13 from rfl] at this;rw [this,show (2:Nat) ^ 13=8192 from rfl,aY (by omega)]
  have ho:h*8192 ||| l / 2251799813685248=h*8192+l / 2251799813685248:=by
   have:=Au (i:=13) (b:=l / 2251799813685248) (by omega) h;rw [show 2 ^ 13*h=h*8192 by omega] at this;exact this.symm
  rw [msk l (by omega),Da,hs,Sn _ _ (by omega) (by omega),ho];have e2:l%2251799813685248=(18446744073709551616*h+l)%2251799813685248:=by omega
  have e3:h*8192+l / 2251799813685248=(18446744073709551616*h+l) / 2251799813685248:=by omega
  rw [e2,e3]; rfl
 ·cases ht
theorem BQ {s:Nat} (h:s < 41538374868278621028243970633760768):aHd [.agg (.ints .u64 [((s / 18446744073709551616:Nat):Int),((s%18446744073709551616:Nat):Int)]) 2]=some (s%2251799813685248,s / 2251799813685248):=by
 have e:18446744073709551616*(s / 18446744073709551616)+s%18446744073709551616=s:=eI ..;simp only [aHd,aAi,bD];rw [A0 (by omega),A0 (by omega),e,aD (by omega)]; rfl
abbrev bAg:Cg:=aVW 
theorem aPz:CfOk prog bAg.c:=gk <| aH
theorem AB:CallOk prog 32 aOV:=by
 refine fO aPz Tryz.func32 ?_;intro args t ht;unfold aOV at ht;simp only at ht;split at ht
 ·rename_i n;obtain ⟨h1,h2⟩:=bO ht;simp only [iV,bJ] at h1;obtain ⟨n,rfl⟩:=bZ h1.1;subst h2;refine (aZf ..).trans ?_;rw [msk n (by omega),Da];have e:fe n=⟨n%2251799813685248,n / 2251799813685248,0,0,0⟩:=by
   simp only [fe,Fe.mk.injEq];refine ⟨trivial,?_,?_,?_,?_⟩ <;> omega
  show _=some (eF (fe n));rw [e]; rfl
 ·cases ht
theorem lV {n:Nat} (h:n < 18446744073709551616):JB [.int .u64 (n:Int)]=some (fe n):=by
 simp only [JB,aOV,bD];rw [A0 h]; rfl
abbrev bAh:Cg:=aVX 
theorem aPA:CfOk prog bAh.c:=gk <| aH
theorem Pv:CallOk prog 71 aY6:=by
 refine fO aPA Tryz.func71 ?_;intro args t ht;obtain ⟨x,rfl,hx,rfl⟩:=aHG (F:=qR) ht;obtain ⟨h1,h2,h3,h4,h5⟩:=hx;refine (aZg ..).trans ?_;rw [msk _ h1,msk _ h2,msk _ h3,msk _ h4,msk _ h5,Da,Da,Da,Da,Da,w19 (by omega),tL (by omega),tL (by omega),tL (by omega),tL (by omega),tL (by omega)];rfl
theorem FO {x:Fe} (h:f64 x):aD8 [eF x]=some (qR x):=by
 simp only [aD8,aY6];exact bAd qR h
abbrev bAi:Cg:=aVY (Fe) aD8 (λ t=>↑t.a) (λ t=>↑t.b) (λ t=>↑t.c) (λ t=>↑t.d) (λ t=>↑t.e)
theorem aPB:CfOk prog bAi.c:=gk <| aA Pv <| aH
theorem xD:CallOk prog 28 aHe:=by
 refine fO aPB Tryz.func28 ?_;intro args t ht;obtain ⟨x,y,rfl,hx,hy,rfl⟩:=y5 (F:=gS) ht;obtain ⟨h1,h2,h3,h4,h5⟩:=hx;obtain ⟨g1,g2,g3,g4,g5⟩:=hy;refine (aZj ..).trans ?_;have hc:=FO (x:=⟨x.a+y.a,x.b+y.b,x.c+y.c,x.d+y.d,x.e+y.e⟩) ⟨by simp only; omega,by simp only; omega,by simp only; omega,by simp only; omega,by simp only; omega⟩;simp only [eF] at hc;rw [tL (by omega),tL (by omega),tL (by omega),tL (by omega),tL (by omega),hc];rfl
theorem gF {x y:Fe} (h:cS x) (h2:cS y):vU [eF x,eF y]=some (gS x y):=by
 simp only [vU,aHe];exact HL gS h h2
abbrev bAj:Cg:=aVZ (Fe) aD8 (λ t=>↑t.a) (λ t=>↑t.b) (λ t=>↑t.c) (λ t=>↑t.d) (λ t=>↑t.e)
theorem aPC:CfOk prog bAj.c:=gk <| aA Pv <| aH
theorem AC:CallOk prog 30 aHf:=by
 refine fO aPC Tryz.func30 ?_;intro args t ht;obtain ⟨x,y,rfl,hx,hy,rfl⟩:=y5 (F:=cQ) ht;obtain ⟨h1,h2,h3,h4,h5⟩:=hx;obtain ⟨g1,g2,g3,g4,g5⟩:=hy;refine (aZk ..).trans ?_;have hc:=FO (x:=⟨x.a+(4503599627370458 - y.a),x.b+(4503599627370494 - y.b),x.c+(4503599627370494 - y.c),x.d+(4503599627370494 - y.d),x.e+(4503599627370494 - y.e)⟩) ⟨by simp only; omega,by simp only; omega,by simp only; omega,by simp only; omega,by simp only; omega⟩;have w:∀ (u v k:Nat),u <= 2251799813947392->v <= 2251799813947392->(k=4503599627370458 ∨ k=4503599627370494)->u64.wrap ((u:Int)+u64.wrap ((k:Int) - (v:Int)))=((u+(k - v):Nat):Int):=λ u v k hu hv hk=>by
  rw [Zf (n:=(k:Int) - v) (by omega) (by omega),Zf (by omega) (by omega)];omega
 rw [show (4503599627370458:Int)=((4503599627370458:Nat):Int) from rfl,show (4503599627370494:Int)=((4503599627370494:Nat):Int) from rfl,
  w _ _ _ h1 g1 (.inl rfl),w _ _ _ h2 g2 (.inr rfl),w _ _ _ h3 g3 (.inr rfl),w _ _ _ h4 g4 (.inr rfl),w _ _ _ h5 g5 (.inr rfl)]
 simp only [eF] at hc;rw [hc];rfl
theorem iQ {x y:Fe} (h:cS x) (h2:cS y):xC [eF x,eF y]=some (cQ x y):=by
 simp only [xC,aHf];exact HL cQ h h2
theorem qW:cS f0:=by simp [cS,f0]
abbrev bAk:Cg:=aV0 (Fe) xC (λ t=>↑t.a) (λ t=>↑t.b) (λ t=>↑t.c) (λ t=>↑t.d) (λ t=>↑t.e)
theorem aPD:CfOk prog bAk.c:=gk <| aA AC <| aH
theorem Cq:CallOk prog 37 aHg:=by
 refine fO aPD Tryz.func37 ?_;intro args t ht;obtain ⟨x,rfl,hx,rfl⟩:=pJ (F:=λ x=>cQ f0 x) ht;refine (aZl ..).trans ?_;have hc:=iQ qW hx;simp only [eF,f0] at hc;rw [show (0:Int)=((0:Nat):Int) from rfl,hc];rfl
theorem pK {x:Fe} (h:cS x):IJ [eF x]=some (cQ f0 x):=by
 simp only [IJ,aHg];exact AA (λ x=>cQ f0 x) h
abbrev aHH:Cg:=dK (Nat) aHc (λ t=>↑(t / 18446744073709551616)) (λ t=>↑(t%18446744073709551616)) (Nat × Nat) aHd (λ t=>↑t.fst) (λ t=>↑t.snd) (Fe) aD8 (λ t=>↑t.a) (λ t=>↑t.b) (λ t=>↑t.c) (λ t=>↑t.d) (λ t=>↑t.e)
theorem aPE:CfOk prog aHH.c:=gk <| aA aPw <| aA aPy <| aA Pv <| aH
theorem pz:[(0:Int),0,0,0,0,0,0,0,0,0]=[((0 / 18446744073709551616:Nat):Int),((0%18446744073709551616:Nat):Int),((0 / 18446744073709551616:Nat):Int),((0%18446744073709551616:Nat):Int),((0 / 18446744073709551616:Nat):Int),((0%18446744073709551616:Nat):Int),((0 / 18446744073709551616:Nat):Int),((0%18446744073709551616:Nat):Int),((0 / 18446744073709551616:Nat):Int),((0%18446744073709551616:Nat):Int)]:=rfl
theorem Ws {a b:Nat} (ha:a <= 2251799813947392) (hb:b <= 2251799813947392):a*b <= 5070602402093509226772943601664:=jT ha hb
theorem mb2 {a b:Nat} (ha:a <= 2251799813947392) (hb:b <= 2251799813947392):a*(b*19) <= 96341445639776675308685928431616:=by
 have:=Ws ha hb;rw [<-dU]; omega
theorem kV:CallOk prog 29 aHh:=by
 refine aZ (fu:=λ _=>6) aPE Tryz.func29 ?_;intro args t ht;obtain ⟨x,y,rfl,hx,hy,rfl⟩:=y5 (F:=aN) ht;obtain ⟨s0,s1,s2,s3,s4⟩:=aVT hx hy;obtain ⟨h1,h2,h3,h4,h5⟩:=hx;obtain ⟨g1,g2,g3,g4,g5⟩:=hy;have p00:=Ws h1 g1;have p01:=Ws h1 g2;have p02:=Ws h1 g3;have p03:=Ws h1 g4;have p04:=Ws h1 g5;have p10:=Ws h2 g1;have p11:=Ws h2 g2;have p12:=Ws h2 g3;have p13:=Ws h2 g4;have p14:=mb2 h2 g5;have p20:=Ws h3 g1;have p21:=Ws h3 g2;have p22:=Ws h3 g3;have p23:=mb2 h3 g4;have p24:=mb2 h3 g5;have p30:=Ws h4 g1;have p31:=Ws h4 g2;have p32:=mb2 h4 g3;have p33:=mb2 h4 g4;have p34:=mb2 h4 g5;have p40:=Ws h5 g1;have p41:=mb2 h5 g2;have p42:=mb2 h5 g3;have p43:=mb2 h5 g4;have p44:=mb2 h5 g5;refine (aZn ..).trans ?_;rw [pz];show eV prog aHH 6 yH _ 6 (some _)=_;rw [aF,aZF];rw [aF,aO1,d8 (by omega) (by omega) (by omega) (by omega),aC];rw [aF,aO2,d8 (by omega) (by omega) (by omega) (by omega),aC];rw [aF,aO3,d8 (by omega) (by omega) (by omega) (by omega),aC];rw [aF,aO4,d8 (by omega) (by omega) (by omega) (by omega),aC];rw [aF,aO5,d8 (by omega) (by omega) (by omega) (by omega),aC];rw [aF,aO6,aR,aZG];rw [aF,aZH];rw [aF,aO7,d8 (by omega) (by omega) (by omega) (by omega),aC];rw [aF,aO8,d8 (by omega) (by omega) (by omega) (by omega),aC];rw [aF,aO9,d8 (by omega) (by omega) (by omega) (by omega),aC];rw [aF,aPa,d8 (by omega) (by omega) (by omega) (by omega),aC];rw [aF,aPb,w19 (by omega),d8 (by omega) (by omega) (by omega) (by omega),aC];rw [aF,aPc,aR,aZI];rw [aF,aZJ];rw [aF,aPd,d8 (by omega) (by omega) (by omega) (by omega),aC];rw [aF,aPe,d8 (by omega) (by omega) (by omega) (by omega),aC];rw [aF,aPf,d8 (by omega) (by omega) (by omega) (by omega),aC];rw [aF,aPg,w19 (by omega),d8 (by omega) (by omega) (by omega) (by omega),aC];rw [aF,aPh,w19 (by omega),d8 (by omega) (by omega) (by omega) (by omega),aC];rw [aF,aPi,aR,aZK];rw [aF,aZL];rw [aF,aPj,d8 (by omega) (by omega) (by omega) (by omega),aC];rw [aF,aPk,d8 (by omega) (by omega) (by omega) (by omega),aC];rw [aF,aPl,w19 (by omega),d8 (by omega) (by omega) (by omega) (by omega),aC];rw [aF,aPm,w19 (by omega),d8 (by omega) (by omega) (by omega) (by omega),aC];rw [aF,aPn,w19 (by omega),d8 (by omega) (by omega) (by omega) (by omega),aC];rw [aF,aPo,aR,aZM];rw [aF,aZN];rw [aF,aPp,d8 (by omega) (by omega) (by omega) (by omega),aC];rw [aF,aPq,w19 (by omega),d8 (by omega) (by omega) (by omega) (by omega),aC];rw [aF,aPr,w19 (by omega),d8 (by omega) (by omega) (by omega) (by omega),aC];rw [aF,aPs,w19 (by omega),d8 (by omega) (by omega) (by omega) (by omega),aC];rw [aF,aPt,w19 (by omega),d8 (by omega) (by omega) (by omega) (by omega),aC];rw [aF,aPu,aR,aZO];rw [aF,aZP,aR,bGu];simp only [bT];rw [show x.a*y.a+x.b*(y.e*19)+x.c*(y.d*19)+x.d*(y.c*19)+x.e*(y.b*19)=sF0 x y from rfl,show x.a*y.b+x.b*y.a+x.c*(y.e*19)+x.d*(y.d*19)+x.e*(y.c*19)=sF1 x y from rfl,
  show x.a*y.c+x.b*y.b+x.c*y.a+x.d*(y.e*19)+x.e*(y.d*19)=sF2 x y from rfl,show x.a*y.d+x.b*y.c+x.c*y.b+x.d*y.a+x.e*(y.e*19)=sF3 x y from rfl,
  show x.a*y.e+x.b*y.d+x.c*y.c+x.d*y.b+x.e*y.a=XB x y from rfl]
 rw [BQ (s:=sF0 x y) (by omega),aC,BQ (s:=sF1 x y) (by omega),aC,BQ (s:=sF2 x y) (by omega),aC,BQ (s:=sF3 x y) (by omega),aC,BQ (s:=XB x y) (by omega),aC];clear p00 p01 p02 p03 p04 p10 p11 p12 p13 p14 p20 p21 p22 p23 p24 p30 p31 p32 p33 p34 p40 p41 p42 p43 p44;dsimp only;rw [aF,aZQ,tL (by omega),aF,aZR,tL (by omega),aF,aZS,tL (by omega),aF,aZT,tL (by omega),aF,aZU,w19 (by omega),tL (by omega),aF,aZV,aR,aHx];have hc:=FO (x:=⟨sF0 x y%2251799813685248+XB x y / 2251799813685248*19,sF1 x y%2251799813685248+sF0 x y / 2251799813685248,sF2 x y%2251799813685248+sF1 x y / 2251799813685248,sF3 x y%2251799813685248+sF2 x y / 2251799813685248,XB x y%2251799813685248+sF3 x y / 2251799813685248⟩)
  ⟨by simp only; omega,by simp only; omega,by simp only; omega,by simp only; omega,by simp only; omega⟩
 simp only [eF] at hc;rw [hc];rfl
theorem bF {x y:Fe} (h:cS x) (h2:cS y):iA [eF x,eF y]=some (aN x y):=by
 simp only [iA,aHh];exact HL aN h h2
abbrev bAl:Cg:=aV1 (Fe) iA (λ t=>↑t.a) (λ t=>↑t.b) (λ t=>↑t.c) (λ t=>↑t.d) (λ t=>↑t.e)
theorem aPF:CfOk prog bAl.c:=gk <| aA kV <| aH
theorem EG:CallOk prog 33 aY7:=by
 refine fO aPF Tryz.func33 ?_;intro args t ht;obtain ⟨x,rfl,hx,rfl⟩:=pJ (F:=λ x=>aN x x) ht;refine (aZo ..).trans ?_;have hc:=bF hx hx;simp only [eF] at hc;rw [hc];rfl
theorem kW {x:Fe} (h:cS x):NQ [eF x]=some (aN x x):=by
 simp only [NQ,aY7];exact AA (λ x=>aN x x) h
abbrev aHI:Cg:=Td (Fe) JB (λ t=>↑t.a) (λ t=>↑t.b) (λ t=>↑t.c) (λ t=>↑t.d) (λ t=>↑t.e) (Fe) NQ (λ t=>↑t.a) (λ t=>↑t.b) (λ t=>↑t.c) (λ t=>↑t.d) (λ t=>↑t.e) (Fe) iA (λ t=>↑t.a) (λ t=>↑t.b) (λ t=>↑t.c) (λ t=>↑t.d) (λ t=>↑t.e)
theorem aPG:CfOk prog aHI.c:=gk <| aA AB <| aA EG <| aA kV <| aH
theorem bJs (low i:Nat) (hl:low <= 256) (hi:i < 8):(decide (fH u64 (eJ u64 (low:Int) (i:Int)) 1=1))=Nat.beq (low / 2 ^ i%2) 1:=by
 rw [pF low i (by omega),aVb _ (jS (sO ..) (by omega)),xZ];congr 1;rw [show (1:Int)=((1:Nat):Int) from rfl];exact propext Int.ofNat_inj
theorem aPH (x:Fe) (hx:cS x) (low:Nat) (hl:low <= 256) (ys:List Int) (fu:Nat):∀ (i n:Nat) (o:Fe),cS o->i < n->i <= 255 ->
  eV prog aHI fu XG (XH _ JB (λ t=>(t.a:Int)) (λ t=>(t.b:Int)) (λ t=>(t.c:Int)) (λ t=>(t.d:Int)) (λ t=>(t.e:Int)) _ NQ (λ t=>(t.a:Int)) (λ t=>(t.b:Int)) (λ t=>(t.c:Int)) (λ t=>(t.d:Int)) (λ t=>(t.e:Int)) _ iA (λ t=>(t.a:Int)) (λ t=>(t.b:Int)) (λ t=>(t.c:Int)) (λ t=>(t.d:Int)) (λ t=>(t.e:Int)) fu) n
   (some (HJ (low:Int) ((i:Int) - 1) [(x.a:Int),x.b,x.c,x.d,x.e] ys [(o.a:Int),o.b,o.c,o.d,o.e]))=some (eF (DY x low i o)):=by
 intro i
 induction i with
 | zero=>
  intro n o ho hn _;obtain ⟨n,rfl⟩:=aP (by omega:n ≠ 0);rw [aF,aHy,aJ (by omega),aE,aR,aHz]; rfl
 | succ i ih=>
  intro n o ho hn hi;obtain ⟨n,rfl⟩:=aP (by omega:n ≠ 0);have hs:=kW ho;have hm:=bF (aL ho ho) hx;simp only [eF] at hs hm;rw [show (((i+1:Nat):Int) - 1)=(i:Int) by omega,aF,aHy,aD (by omega),aB,hs,aC,bW (by omega) (by omega),DY];by_cases c:8 <= i
  ·rw [aD (by omega:(8:Int) <= (i:Int)),aB,hm,aC,aD c,IA,aB];exact ih n _ (aL (aL ho ho) hx) (by omega) (by omega)
  ·rw [aJ (by omega:¬ (8:Int) <= (i:Int)),aE,aJ (by omega),aE,bJs low i hl (by omega),aJ c,Ep];cases Nat.beq (low / 2 ^ i%2) 1
   ·rw [aE,aE];exact ih n _ (aL ho ho) (by omega) (by omega)
   ·rw [aB,aB,hm,aC];exact ih n _ (aL (aL ho ho) hx) (by omega) (by omega)
theorem aHJ:CallOk prog 113 aOW:=by
 refine aZ (fu:=λ _=>300) aPG Tryz.func113 ?_;intro args t ht;unfold aOW at ht;simp only at ht;split at ht
 ·rename_i a b c d e n less;obtain ⟨h1,h2⟩:=bO ht;simp only [aW,bJ] at h1;obtain ⟨⟨h1,n0,n1⟩,l0,l1⟩:=h1;obtain ⟨x,rfl,rfl,rfl,rfl,rfl,hx,ex⟩:=eO h1;obtain ⟨n,rfl⟩:=bZ n0;obtain ⟨less,rfl⟩:=bZ l0;subst h2;rw [ex];refine (aZq ..).trans ?_;have h1:=lV (n:=1) (by decide);rw [show ((1:Nat):Int)=1 from rfl] at h1;rw [h1,aC,bW (by omega) (by omega),show (256:Int) - (less:Int)=((256 - less:Nat):Int) by omega,aAn (by omega)];exact aPH x hx (256 - less) (by omega) _ 300 n 300 (fe 1) (cA 1) (by omega) (by omega)
 ·cases ht
theorem aAo {x:Fe} {n less:Nat} (h:cS x) (hn:n <= 255) (hl:less <= 256):aOX [eF x,.int .i64 (n:Int),.int .u64 (less:Int)]=some (DY x (256 - less) n (fe 1)):=by
 simp only [aOX,aOW,eF,bD];rw [eQ h,aD (by omega),aD (by omega)]; rfl
abbrev bAm:Cg:=aV2 (Fe) aOX (λ t=>↑t.a) (λ t=>↑t.b) (λ t=>↑t.c) (λ t=>↑t.d) (λ t=>↑t.e)
theorem aPI:CfOk prog bAm.c:=gk <| aA aHJ <| aH
theorem XK:CallOk prog 68 aY8:=by
 refine fO aPI Tryz.func68 ?_;intro args t ht;obtain ⟨x,rfl,hx,rfl⟩:=pJ (F:=vV) ht;refine (aZr ..).trans ?_;have hc:=aAo (n:=255) (less:=21) hx (by omega) (by omega);simp only [eF] at hc;rw [show (255:Int)=((255:Nat):Int) from rfl,show (21:Int)=((21:Nat):Int) from rfl,hc];rfl
theorem Pw {x:Fe} (h:cS x):aHi [eF x]=some (vV x):=by
 simp only [aHi,aY8];exact AA vV h
abbrev bAn:Cg:=aV3 (Fe) aOX (λ t=>↑t.a) (λ t=>↑t.b) (λ t=>↑t.c) (λ t=>↑t.d) (λ t=>↑t.e)
theorem aPJ:CfOk prog bAn.c:=gk <| aA aHJ <| aH
theorem aHK:CallOk prog 74 XC:=by
 refine fO aPJ Tryz.func74 ?_;intro args t ht;obtain ⟨x,rfl,hx,rfl⟩:=pJ (F:=N0) ht;refine (aZs ..).trans ?_;have hc:=aAo (n:=252) (less:=3) hx (by omega) (by omega);simp only [eF] at hc;rw [show (252:Int)=((252:Nat):Int) from rfl,show (3:Int)=((3:Nat):Int) from rfl,hc];rfl
theorem aEb {x:Fe} (h:cS x):XD [eF x]=some (N0 x):=by
 simp only [XD,XC];exact AA N0 h
set_option maxRecDepth 4000
theorem bAo {u:Nat} (h:u+19 < 18446744073709551616):u64.wrap ((u:Int)+19)=((u+19:Nat):Int):=tL (v:=19) h
theorem bJt {u:Nat} (h:19*u < 18446744073709551616):u64.wrap (19*(u:Int))=((19*u:Nat):Int):=by
 rw [show (19:Int)=((19:Nat):Int) from rfl,<-qG]; exact aAn h
abbrev aHL:Cg:=uD (Fe) aD8 (λ t=>↑t.a) (λ t=>↑t.b) (λ t=>↑t.c) (λ t=>↑t.d) (λ t=>↑t.e)
theorem aPK:CfOk prog aHL.c:=gk <| aA Pv <| aH
theorem Cr:CallOk prog 76 Pn:=by
 refine aZ (fu:=λ _=>6) aPK Tryz.func76 ?_;intro args t ht;obtain ⟨x,rfl,hx,rfl⟩:=pJ (F:=FI) ht;have c1:=FO (Pk hx);have c2:=FO (Pk (KY (Pk hx)));have hm:fv (qR (qR x))%aK=fv x%aK:=by rw [FF,FF]
 obtain ⟨h1,h2,h3,h4,h5⟩:=aOU hx;generalize hy:qR (qR x)=y at *;simp only [eF] at c1 c2;refine (aZi ..).trans ?_;rw [c1,aC,c2,aC];show eV prog aHL 6 EE _ 6 (some _)=_;have b0:(y.a+19) / 2251799813685248 <= 1:=by omega
 generalize e0:(y.a+19) / 2251799813685248=o0 at *;have b1:(y.b+o0) / 2251799813685248 <= 1:=by omega
 generalize e1:(y.b+o0) / 2251799813685248=o1 at *;have b2:(y.c+o1) / 2251799813685248 <= 1:=by omega
 generalize e2:(y.c+o1) / 2251799813685248=o2 at *;have b3:(y.d+o2) / 2251799813685248 <= 1:=by omega
 generalize e3:(y.d+o2) / 2251799813685248=o3 at *;have b4:(y.e+o3) / 2251799813685248 <= 1:=by omega
 generalize e4:(y.e+o3) / 2251799813685248=o4 at *;rw [bAo (by omega),Da,e0,aF,aZW,tL (by omega),Da,e1,aF,aZX,tL (by omega),Da,e2,aF,aZY,tL (by omega),Da,e3,aF,aZZ,tL (by omega),Da,e4,aF,aZ1,aR,bGv,bJt (by omega),tL (by omega)];rw [aF,aZ2,Da,tL (by omega),msk _ (by omega),aF,aZ3,Da,tL (by omega),msk _ (by omega),aF,aZ4,Da,tL (by omega),msk _ (by omega),aF,aZ5,Da,tL (by omega),msk _ (by omega),aF,aZ6,aR,bGw,msk _ (by omega)];have key:=aG9 (a:=y.a) (b:=y.b) (c:=y.c) (d:=y.d) (e:=y.e) h1 h2 h3 h4 h5 e0.symm e1.symm e2.symm e3.symm e4.symm rfl rfl rfl rfl rfl;show _=some (eF (FI x));rw [FI,<-hm,show y=⟨y.a,y.b,y.c,y.d,y.e⟩ from rfl,key];rfl
theorem vW {x:Fe} (h:cS x):rU [eF x]=some (FI x):=by
 simp only [rU,Pn];exact AA FI h
theorem bGx (x:Fe):fv (FI x)=fv x%aK:=Dq (cZ (bH _ (by decide)) (by decide))
theorem fG (n:Nat):n%aK < aK:=bH _ (by decide)
abbrev bAp:Cg:=aV4 (Fe) rU (λ t=>↑t.a) (λ t=>↑t.b) (λ t=>↑t.c) (λ t=>↑t.d) (λ t=>↑t.e)
theorem aPL:CfOk prog bAp.c:=gk <| aA Cr <| aH
theorem bAq (x:Fe):decide (fH u64 ((FI x).a:Int) 1=1)=qS x:=by
 have hl:(FI x).a < 2251799813685248:=aVS.1;have e:fv (FI x)%2=(FI x).a%2:=by simp only [fv]; omega
 rw [aVb _ (by omega),qS,<-bGx,e,xZ];congr 1;rw [show (1:Int)=((1:Nat):Int) from rfl];exact propext Int.ofNat_inj
theorem XL:CallOk prog 34 aY9:=by
 refine fO aPL Tryz.func34 ?_;intro args t ht;obtain ⟨x,rfl,hx,rfl⟩:=pJ (F:=qS) ht;have c:=vW hx;simp only [eF] at c;refine (aZt ..).trans ?_;rw [c,aC,bAq];rfl
theorem FP {x:Fe} (h:cS x):aD9 [eF x]=some (qS x):=by
 simp only [aD9,aY9];exact AA qS h
theorem aHM {m n:Nat} (hm:m < aK) (hn:n < aK):(([((fe m).a:Int),(fe m).b,(fe m).c,(fe m).d,(fe m).e]:List Int)=[((fe n).a:Int),(fe n).b,(fe n).c,(fe n).d,(fe n).e]) ↔ m=n:=by
 constructor
 ·intro h;simp only [List.cons.injEq,Int.ofNat_inj,and_true] at h;obtain ⟨h1,h2,h3,h4,h5⟩:=h;have:fe m=fe n:=by
   cases hm':fe m;cases hn':fe n;rw [hm',hn'] at h1 h2 h3 h4 h5;simp only at h1 h2 h3 h4 h5;rw [h1,h2,h3,h4,h5]
  have:=dW fv this;rwa [Dq (cZ hm (by decide)),Dq (cZ hn (by decide))] at this
 ·intro h;rw [h]
theorem aPM:fe 0=f0:=rfl
abbrev bAr:Cg:=aV5 (Fe) rU (λ t=>↑t.a) (λ t=>↑t.b) (λ t=>↑t.c) (λ t=>↑t.d) (λ t=>↑t.e)
theorem aPN:CfOk prog bAr.c:=gk <| aA Cr <| aH
theorem aHN:CallOk prog 165 aZa:=by
 refine fO aPN Tryz.func165 ?_;intro args t ht;obtain ⟨x,rfl,hx,rfl⟩:=pJ (F:=FK) ht;have c:=vW hx;simp only [eF] at c;refine (aZu ..).trans ?_;rw [c,aC];have e:=aHM (fG (fv x)) (n:=0) (by decide);rw [aPM] at e;show some (AV.bool (decide ([((FI x).a:Int),(FI x).b,(FI x).c,(FI x).d,(FI x).e]=[((f0.a:Nat):Int),(f0.b:Nat),(f0.c:Nat),(f0.d:Nat),(f0.e:Nat)])))=some (AV.bool (FK x));rw [FK,xZ,FI,mA.2 e]
theorem aAp {x:Fe} (h:cS x):aOY [eF x]=some (FK x):=by
 simp only [aOY,aZa];exact AA FK h
abbrev bAs:Cg:=aV6 (Fe) rU (λ t=>↑t.a) (λ t=>↑t.b) (λ t=>↑t.c) (λ t=>↑t.d) (λ t=>↑t.e)
theorem aPO:CfOk prog bAs.c:=gk <| aA Cr <| aH
theorem Kf:CallOk prog 75 aZb:=by
 refine fO aPO Tryz.func75 ?_;intro args t ht;obtain ⟨x,y,rfl,hx,hy,rfl⟩:=y5 (F:=jW) ht;have c:=vW hx;have c2:=vW hy;simp only [eF] at c c2;refine (aZv ..).trans ?_;rw [c,aC,c2,aC];have e:=aHM (fG (fv x)) (fG (fv y));show some (AV.bool (decide ([((FI x).a:Int),(FI x).b,(FI x).c,(FI x).d,(FI x).e]=[((FI y).a:Int),(FI y).b,(FI y).c,(FI y).d,(FI y).e])))=some (AV.bool (jW x y));rw [jW,xZ,FI,FI,mA.2 e]
theorem rV {x y:Fe} (h:cS x) (h2:cS y):XE [eF x,eF y]=some (jW x y):=by
 simp only [XE,aZb];exact HL jW h h2
abbrev bAt:Cg:=aV7 (Bool) aD9 (λ t=>t) (Fe) IJ (λ t=>↑t.a) (λ t=>↑t.b) (λ t=>↑t.c) (λ t=>↑t.d) (λ t=>↑t.e)
theorem aPP:CfOk prog bAt.c:=gk <| aA XL <| aA Cq <| aH
theorem JN:CallOk prog 38 aHj:=by
 refine fO aPP Tryz.func38 ?_;intro args t ht;obtain ⟨x,rfl,hx,rfl⟩:=pJ (F:=wX) ht;have c:=FP hx;have c2:=pK hx;simp only [eF] at c c2;refine (aZw ..).trans ?_;rw [c,aC];show _=some (eF (wX x));rw [wX];cases qS x
 ·rfl
 ·rw [aB,c2,aC]; rfl
theorem BR {x:Fe} (h:cS x):IK [eF x]=some (wX x):=by
 simp only [IK,aHj];exact AA wX h
end
end Go.Eng
