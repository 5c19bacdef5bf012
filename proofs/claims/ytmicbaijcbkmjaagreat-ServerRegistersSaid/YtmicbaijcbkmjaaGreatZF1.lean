import Derived.Test.YtmicbaijcbkmjaaGreatZL3
import Derived.Test.YtmicbaijcbkmjaaGreatZS0
namespace Go.Eng
open Go.IntKind (u64 i64 u8)
noncomputable section
set_option linter.unusedVariables false
abbrev aJ:Nat:=57896044618658097711785492504343953926634992332820282019728792003956564819949
structure Fe where
 a:Nat
 b:Nat
 c:Nat
 d:Nat
 e:Nat
def fv (x:Fe):Nat:=x.a+2251799813685248*x.b+5070602400912917605986812821504*x.c+11417981541647679048466287755595961091061972992*x.d+25711008708143844408671393477458601640355247900524685364822016*x.e
def fe (n:Nat):Fe:=⟨n%2251799813685248,n / 2251799813685248%2251799813685248,n / 5070602400912917605986812821504%2251799813685248,n / 11417981541647679048466287755595961091061972992%2251799813685248,n / 25711008708143844408671393477458601640355247900524685364822016%2251799813685248⟩
def cN (x:Fe):Prop:=x.a <= 2251799813947392 /\ x.b <= 2251799813947392 /\ x.c <= 2251799813947392 /\ x.d <= 2251799813947392 /\ x.e <= 2251799813947392
def f64 (x:Fe):Prop:=x.a < 18446744073709551616 /\ x.b < 18446744073709551616 /\ x.c < 18446744073709551616 /\ x.d < 18446744073709551616 /\ x.e < 18446744073709551616
def oL (x:Fe):Fe:=⟨x.a%2251799813685248+x.e / 2251799813685248*19,x.b%2251799813685248+x.a / 2251799813685248,x.c%2251799813685248+x.b / 2251799813685248,x.d%2251799813685248+x.c / 2251799813685248,x.e%2251799813685248+x.d / 2251799813685248⟩
theorem Nv {x:Fe} (h:cN x):f64 x:=by
 obtain ⟨h1,h2,h3,h4,h5⟩:=h;refine ⟨?_,?_,?_,?_,?_⟩ <;> omega
theorem I9 {x:Fe} (h:f64 x):cN (oL x):=by
 obtain ⟨h1,h2,h3,h4,h5⟩:=h;simp only [cN,oL];refine ⟨?_,?_,?_,?_,?_⟩ <;> omega
theorem aKQ (x:Fe):fv (oL x)+aJ*(x.e / 2251799813685248)=fv x:=by
 simp only [fv,oL,aJ];have ha:=eO x.a 2251799813685248;have hb:=eO x.b 2251799813685248;have hc:=eO x.c 2251799813685248;have hd:=eO x.d 2251799813685248;have he:=eO x.e 2251799813685248;omega
theorem Dl (x:Fe):fv (oL x)%aJ=fv x%aJ:=by
 rw [<-aKQ x,BT]
theorem aO6 {n:Nat}:(fe n).a < 2251799813685248 /\ (fe n).b < 2251799813685248 /\ (fe n).c < 2251799813685248 /\ (fe n).d < 2251799813685248 /\ (fe n).e < 2251799813685248:=by
 simp only [fe];refine ⟨?_,?_,?_,?_,?_⟩ <;> exact bK _ (by decide)
theorem cV (n:Nat):cN (fe n):=by
 obtain ⟨h1,h2,h3,h4,h5⟩:=@aO6 n;refine ⟨?_,?_,?_,?_,?_⟩ <;> omega
theorem dd (n k:Nat):n / k / 2251799813685248=n / (k*2251799813685248):=gR ..
theorem CF {n:Nat} (h:n < 57896044618658097711785492504343953926634992332820282019728792003956564819968):fv (fe n)=n:=by
 simp only [fv,fe];have e1:=dd n 2251799813685248;have e2:=dd n 5070602400912917605986812821504;have e3:=dd n 11417981541647679048466287755595961091061972992;simp only [Nat.reduceMul] at e1 e2 e3;have h4:n / 25711008708143844408671393477458601640355247900524685364822016 < 2251799813685248:=by omega
 rw [<-e1,<-e2,<-e3] at *;omega
theorem aYw {x:Fe} (h:x.a < 2251799813685248 /\ x.b < 2251799813685248 /\ x.c < 2251799813685248 /\ x.d < 2251799813685248 /\ x.e < 2251799813685248):fe (fv x)=x:=by
 obtain ⟨a,b,c,d,e⟩:=x;obtain ⟨h1,h2,h3,h4,h5⟩:=h;simp only at h1 h2 h3 h4 h5;have e1:=dd (fv ⟨a,b,c,d,e⟩) 2251799813685248;have e2:=dd (fv ⟨a,b,c,d,e⟩) 5070602400912917605986812821504;have e3:=dd (fv ⟨a,b,c,d,e⟩) 11417981541647679048466287755595961091061972992;simp only [Nat.reduceMul] at e1 e2 e3;have g1:fv ⟨a,b,c,d,e⟩ / 2251799813685248=b+2251799813685248*c+5070602400912917605986812821504*d+11417981541647679048466287755595961091061972992*e:=by simp only [fv]; omega
 have g2:fv ⟨a,b,c,d,e⟩ / 5070602400912917605986812821504=c+2251799813685248*d+5070602400912917605986812821504*e:=by rw [<-e1,g1]; omega
 have g3:fv ⟨a,b,c,d,e⟩ / 11417981541647679048466287755595961091061972992=d+2251799813685248*e:=by rw [<-e2,g2]; omega
 have g4:fv ⟨a,b,c,d,e⟩ / 25711008708143844408671393477458601640355247900524685364822016=e:=by rw [<-e3,g3]; omega
 simp only [fe,g1,g2,g3,g4,Fe.mk.injEq];refine ⟨?_,?_,?_,?_,?_⟩
 ·simp only [fv]; omega
 all_goals omega
def gC (x y:Fe):Fe:=oL ⟨x.a+y.a,x.b+y.b,x.c+y.c,x.d+y.d,x.e+y.e⟩
def cJ (x y:Fe):Fe:=oL ⟨x.a+(4503599627370458 - y.a),x.b+(4503599627370494 - y.b),x.c+(4503599627370494 - y.c),x.d+(4503599627370494 - y.d),x.e+(4503599627370494 - y.e)⟩
theorem cD {x y:Fe} (hx:cN x) (hy:cN y):cN (gC x y):=by
 obtain ⟨h1,h2,h3,h4,h5⟩:=hx;obtain ⟨g1,g2,g3,g4,g5⟩:=hy;refine I9 ⟨?_,?_,?_,?_,?_⟩ <;> simp only <;> omega
theorem add_mod (x y:Fe):fv (gC x y)%aJ=(fv x+fv y)%aJ:=by
 rw [gC,Dl];congr 1;simp only [fv]; omega
theorem cL {x y:Fe} (hx:cN x):cN (cJ x y):=by
 obtain ⟨h1,h2,h3,h4,h5⟩:=hx;refine I9 ⟨?_,?_,?_,?_,?_⟩ <;> simp only <;> omega
theorem Nw {x y:Fe} (hy:cN y):(fv (cJ x y)+fv y)%aJ=fv x%aJ:=by
 rw [cJ,Ed,Dl,<-Ed];obtain ⟨g1,g2,g3,g4,g5⟩:=hy;have:fv ⟨x.a+(4503599627370458 - y.a),x.b+(4503599627370494 - y.b),x.c+(4503599627370494 - y.c),x.d+(4503599627370494 - y.d),x.e+(4503599627370494 - y.e)⟩+fv y=fv x+aJ*2:=by
  simp only [fv,aJ]; omega
 rw [this,BT]
def W9 (x y:Fe):Nat:=x.a*y.a+x.b*(y.e*19)+x.c*(y.d*19)+x.d*(y.c*19)+x.e*(y.b*19)
def XA (x y:Fe):Nat:=x.a*y.b+x.b*y.a+x.c*(y.e*19)+x.d*(y.d*19)+x.e*(y.c*19)
def XB (x y:Fe):Nat:=x.a*y.c+x.b*y.b+x.c*y.a+x.d*(y.e*19)+x.e*(y.d*19)
def XC (x y:Fe):Nat:=x.a*y.d+x.b*y.c+x.c*y.b+x.d*y.a+x.e*(y.e*19)
def UJ (x y:Fe):Nat:=x.a*y.e+x.b*y.d+x.c*y.c+x.d*y.b+x.e*y.a
def aO (x y:Fe):Fe:=oL ⟨W9 x y%2251799813685248+UJ x y / 2251799813685248*19,XA x y%2251799813685248+W9 x y / 2251799813685248,XB x y%2251799813685248+XA x y / 2251799813685248,XC x y%2251799813685248+XB x y / 2251799813685248,UJ x y%2251799813685248+XC x y / 2251799813685248⟩
theorem aTY {a b:Nat} (ha:a <= 2251799813947392) (hb:b <= 42784196465000448):a*b <= 96341445639776675308685928431616:=cK (iJ ha hb) (by decide)
theorem aKR {a b:Nat} (ha:a <= 2251799813947392) (hb:b <= 2251799813947392):a*b <= 5070602402093509226772943601664:=cK (iJ ha hb) (by decide)
theorem aO7 {x y:Fe} (hx:cN x) (hy:cN y):W9 x y < 649037107316853453566312041152512 /\ XA x y < 649037107316853453566312041152512 /\ XB x y < 649037107316853453566312041152512 /\ XC x y < 649037107316853453566312041152512 /\ UJ x y <= 25353012010467546133864718008320:=by
 obtain ⟨h1,h2,h3,h4,h5⟩:=hx;obtain ⟨g1,g2,g3,g4,g5⟩:=hy;have q:∀ {a b:Nat},a <= 2251799813947392->b <= 2251799813947392->a*(b*19) <= 96341445639776675308685928431616:=λ ha hb=>aTY ha (by omega);have r:∀ {a b:Nat},a <= 2251799813947392->b <= 2251799813947392->a*b <= 5070602402093509226772943601664:=λ ha hb=>aKR ha hb;simp only [W9,XA,XB,XC,UJ];have:=r h1 g1; have:=r h1 g2; have:=r h1 g3; have:=r h1 g4; have:=r h1 g5;have:=r h2 g1; have:=r h2 g2; have:=r h2 g3; have:=r h2 g4; have:=q h2 g5;have:=r h3 g1; have:=r h3 g2; have:=r h3 g3; have:=q h3 g4; have:=q h3 g5;have:=r h4 g1; have:=r h4 g2; have:=q h4 g3; have:=q h4 g4; have:=q h4 g5;have:=r h5 g1; have:=q h5 g2; have:=q h5 g3; have:=q h5 g4; have:=q h5 g5;refine ⟨?_,?_,?_,?_,?_⟩ <;> omega
theorem aL {x y:Fe} (hx:cN x) (hy:cN y):cN (aO x y):=by
 obtain ⟨h1,h2,h3,h4,h5⟩:=aO7 hx hy;refine I9 ⟨?_,?_,?_,?_,?_⟩ <;> simp only <;> omega
theorem mul_mod (x y:Fe):fv (aO x y)%aJ=fv x*fv y%aJ:=by
 rw [aO,Dl];have e1:fv ⟨W9 x y%2251799813685248+UJ x y / 2251799813685248*19,XA x y%2251799813685248+W9 x y / 2251799813685248,XB x y%2251799813685248+XA x y / 2251799813685248,XC x y%2251799813685248+XB x y / 2251799813685248,UJ x y%2251799813685248+XC x y / 2251799813685248⟩+aJ*(UJ x y / 2251799813685248)=fv ⟨W9 x y,XA x y,XB x y,XC x y,UJ x y⟩:=by
  simp only [fv,aJ];generalize W9 x y=s0,XA x y=s1,XB x y=s2,XC x y=s3,UJ x y=s4;omega
 have e2:fv ⟨W9 x y,XA x y,XB x y,XC x y,UJ x y⟩+aJ*(x.b*y.e+x.c*y.d+x.d*y.c+x.e*y.b+2251799813685248*(x.c*y.e+x.d*y.d+x.e*y.c)+5070602400912917605986812821504*(x.d*y.e+x.e*y.d)+11417981541647679048466287755595961091061972992*(x.e*y.e))=fv x*fv y:=by
  simp only [fv,aJ,W9,XA,XB,XC,UJ];grind
 rw [<-e2,BT,<-e1,BT]
def Dm (x:Fe):Fe:=fe (fv x%57896044618658097711785492504343953926634992332820282019728792003956564819949)
theorem aTZ {v r1 r2 o4 q4:Nat} (s1:v+19=r1+57896044618658097711785492504343953926634992332820282019728792003956564819968*o4) (s2:v+19*o4=r2+57896044618658097711785492504343953926634992332820282019728792003956564819968*q4)
  (l1:r1 < 57896044618658097711785492504343953926634992332820282019728792003956564819968) (l2:r2 < 57896044618658097711785492504343953926634992332820282019728792003956564819968)
  (lv:v < 115792089237316195423570985008687907853269984665640564039457584007913129639898) (b4:o4 <= 1) (e:o4=1->q4=o4):v%aJ=r2:=by
 simp only [aJ];rcases (by omega:o4=0 ∨ o4=1) with h | h
 ·omega
 ·have:=e h;omega
theorem aEX {a b c d e o0 o1 o2 o3 o4 q0 q1 q2 q3 q4:Nat} (ha:a <= 2251799813685266) (hb:b <= 2251799813685248) (hc:c <= 2251799813685248) (hd:d <= 2251799813685248) (he:e <= 2251799813685248)
  (h0:o0=(a+19) / 2251799813685248) (h1:o1=(b+o0) / 2251799813685248) (h2:o2=(c+o1) / 2251799813685248) (h3:o3=(d+o2) / 2251799813685248) (h4:o4=(e+o3) / 2251799813685248)
  (g0:q0=(a+19*o4) / 2251799813685248) (g1:q1=(b+q0) / 2251799813685248) (g2:q2=(c+q1) / 2251799813685248) (g3:q3=(d+q2) / 2251799813685248) (g4:q4=(e+q3) / 2251799813685248) :
  fe (fv ⟨a,b,c,d,e⟩%aJ)=⟨(a+19*o4)%2251799813685248,(b+q0)%2251799813685248,(c+q1)%2251799813685248,(d+q2)%2251799813685248,(e+q3)%2251799813685248⟩:=by
 rw [<-aYw (x:=⟨(a+19*o4)%2251799813685248,(b+q0)%2251799813685248,(c+q1)%2251799813685248,(d+q2)%2251799813685248,(e+q3)%2251799813685248⟩) ⟨bK _ (by decide),bK _ (by decide),bK _ (by decide),bK _ (by decide),bK _ (by decide)⟩];congr 1;have b0:o0 <= 1:=by omega
 have b1:o1 <= 1:=by omega
 have b2:o2 <= 1:=by omega
 have b3:o3 <= 1:=by omega
 have b4:o4 <= 1:=by omega
 have s1:fv ⟨a,b,c,d,e⟩+19=fv ⟨(a+19)%2251799813685248,(b+o0)%2251799813685248,(c+o1)%2251799813685248,(d+o2)%2251799813685248,(e+o3)%2251799813685248⟩+57896044618658097711785492504343953926634992332820282019728792003956564819968*o4:=by
  simp only [fv]; omega
 have s2:fv ⟨a,b,c,d,e⟩+19*o4=fv ⟨(a+19*o4)%2251799813685248,(b+q0)%2251799813685248,(c+q1)%2251799813685248,(d+q2)%2251799813685248,(e+q3)%2251799813685248⟩+57896044618658097711785492504343953926634992332820282019728792003956564819968*q4:=by
  simp only [fv]; omega
 have lt:∀ u v w x y:Nat,fv ⟨u%2251799813685248,v%2251799813685248,w%2251799813685248,x%2251799813685248,y%2251799813685248⟩ < 57896044618658097711785492504343953926634992332820282019728792003956564819968:=by
  intro u v w x y;simp only [fv]; omega
 have l1:=lt (a+19) (b+o0) (c+o1) (d+o2) (e+o3);have l2:=lt (a+19*o4) (b+q0) (c+q1) (d+q2) (e+q3);have lv:fv ⟨a,b,c,d,e⟩ < 115792089237316195423570985008687907853269984665640564039457584007913129639898:=by simp only [fv]; omega
 refine aTZ s1 s2 l1 l2 lv b4 λ h=>?_;have e0:q0=o0:=by rw [g0,h0,h]
 have e1:q1=o1:=by rw [g1,h1,e0]
 have e2:q2=o2:=by rw [g2,h2,e1]
 have e3:q3=o3:=by rw [g3,h3,e2]
 rw [g4,h4,e3]
theorem aKS {x:Fe} (h:cN x):(oL (oL x)).a <= 2251799813685266 /\ (oL (oL x)).b <= 2251799813685248 /\ (oL (oL x)).c <= 2251799813685248 /\ (oL (oL x)).d <= 2251799813685248 /\ (oL (oL x)).e <= 2251799813685248:=by
 obtain ⟨h1,h2,h3,h4,h5⟩:=I9 (Nv h);generalize oL x=y at *;simp only [oL];refine ⟨?_,?_,?_,?_,?_⟩ <;> omega
def Bg (x:Fe) (low:Nat):Nat->Fe->Fe
 | 0,o=>o
 | i+1,o=>Bg x low i (cond (decide (8 <= i) || Nat.beq (low / 2 ^ i%2) 1) (aO (aO o o) x) (aO o o))
theorem UK {x:Fe} {low:Nat} (hx:cN x):∀ {i:Nat} {o:Fe},cN o->cN (Bg x low i o):=by
 intro i
 induction i with
 | zero=>intro o h; exact h
 | succ i ih=>
  intro o h;refine ih ?_;cases (decide (8 <= i) || Nat.beq (low / 2 ^ i%2) 1)
  ·exact aL h h
  ·exact aL (aL h h) hx
open Go Go.Proofs
set_option linter.unusedSimpArgs false
def aEY:FA (Int × Int):=qP.run
def aEZ:FA (Int × Int):=jU.run
def eF (x:Fe):AV:=.agg (.ints .u64 [(x.a:Int),(x.b:Int),(x.c:Int),(x.d:Int),(x.e:Int)]) 5
def wZ (a b c d e:Int):Bool:=decide (0 <= a /\ a <= 2251799813947392 /\ 0 <= b /\ b <= 2251799813947392 /\ 0 <= c /\ c <= 2251799813947392 /\ 0 <= d /\ d <= 2251799813947392 /\ 0 <= e /\ e <= 2251799813947392)
def inG (a b c d e:Int):Bool:=hO a && hO b && hO c && hO d && hO e
def xS (a b c d e:Int):Fe:=⟨a.toNat,b.toNat,c.toNat,d.toNat,e.toNat⟩
def AG {T:Type} (F:Fe->T):FA T
 | [.c (.s (.pl (.agg (.ints .u64 [a,b,c,d,e]) 5)))]=>cond (wZ a b c d e) (some (F (xS a b c d e))) none
 | _=>none
def XD {T:Type} (F:Fe->T):FA T
 | [.c (.s (.pl (.agg (.ints .u64 [a,b,c,d,e]) 5)))]=>cond (inG a b c d e) (some (F (xS a b c d e))) none
 | _=>none
def Dn {T:Type} (F:Fe->Fe->T):FA T
 | [.c (.s (.pl (.agg (.ints .u64 [a,b,c,d,e]) 5))),.c (.s (.pl (.agg (.ints .u64 [a',b',c',d',e']) 5)))]=>cond (wZ a b c d e && wZ a' b' c' d' e') (some (F (xS a b c d e) (xS a' b' c' d' e'))) none
 | _=>none
def XE:Summ where
 T:=Nat
 run:=λ
  | [.c (.s (.pl (.agg (.ints .u64 [h,l]) 2))),.c (.s (.pl (.int .u64 x))),.c (.s (.pl (.int .u64 y)))]=>
   cond (hO h && hO l && hO x && hO y && Nat.blt (18446744073709551616*h.toNat+l.toNat+x.toNat*y.toNat) 340282366920938463463374607431768211456) (some (18446744073709551616*h.toNat+l.toNat+x.toNat*y.toNat)) none
  | _=>none
 enc:=λ t=>.agg (.ints .u64 [((t / 18446744073709551616:Nat):Int),((t%18446744073709551616:Nat):Int)]) 2
def aE0:FA Nat:=XE.run
def XF:Summ where
 T:=Nat × Nat
 run:=λ
  | [.c (.s (.pl (.agg (.ints .u64 [h,l]) 2)))]=>cond (hO h && hO l && decide (h < 2251799813685248)) (some ((18446744073709551616*h.toNat+l.toNat)%2251799813685248,(18446744073709551616*h.toNat+l.toNat) / 2251799813685248)) none
  | _=>none
 enc:=λ t=>.tup [.s (.pl (.int .u64 (t.1:Int))),.s (.pl (.int .u64 (t.2:Int)))]
def aE1:FA (Nat × Nat):=XF.run
def aE2:Summ where
 T:=Fe
 run:=λ
  | [.c (.s (.pl (.int .u64 n)))]=>cond (hO n) (some (fe n.toNat)) none
  | _=>none
 enc:=eF
def Nx:FA Fe:=aE2.run
def aT0:Summ:={ T:=Fe,run:=XD oL,enc:=eF }
def Z9:FA Fe:=aT0.run
def Ny:Summ:={ T:=Fe,run:=AG Dm,enc:=eF }
def pO:FA Fe:=Ny.run
def XG:Summ:={ T:=Fe,run:=Dn gC,enc:=eF }
def uG:FA Fe:=XG.run
def XH:Summ:={ T:=Fe,run:=Dn cJ,enc:=eF }
def wI:FA Fe:=XH.run
def f0:Fe:=⟨0,0,0,0,0⟩
def XI:Summ:={ T:=Fe,run:=AG λ x=>cJ f0 x,enc:=eF }
def JA:FA Fe:=XI.run
def XJ:Summ:={ T:=Fe,run:=Dn aO,enc:=eF }
def iC:FA Fe:=XJ.run
def aKT:Summ:={ T:=Fe,run:=AG λ x=>aO x x,enc:=eF }
def Nz:FA Fe:=aKT.run
def aE3:Summ where
 T:=Fe
 run:=λ
  | [.c (.s (.pl (.agg (.ints .u64 [a,b,c,d,e]) 5))),.c (.s (.pl (.int .i64 n))),.c (.s (.pl (.int .u64 less)))]=>
   cond (wZ a b c d e && decide (0 <= n /\ n <= 255) && decide (0 <= less /\ less <= 256)) (some (Bg (xS a b c d e) (256 - less.toNat) n.toNat (fe 1))) none
  | _=>none
 enc:=eF
def aT1:FA Fe:=aE3.run
def aT2 (x:Fe):Fe:=Bg x 235 255 (fe 1)
def LQ (x:Fe):Fe:=Bg x 253 252 (fe 1)
def UL:Summ:={ T:=Fe,run:=AG LQ,enc:=eF }
def UM:FA Fe:=UL.run
def oX (x:Fe):Bool:=Nat.beq (fv x%aJ%2) 1
def aT3:Summ:={ T:=Bool,run:=AG oX,enc:=λ t=>.bool t }
def aAa:FA Bool:=aT3.run
def Gn (x:Fe):Bool:=Nat.beq (fv x%aJ) 0
def aKU:Summ:={ T:=Bool,run:=AG Gn,enc:=λ t=>.bool t }
def aT4:FA Bool:=aKU.run
def kO (x y:Fe):Bool:=Nat.beq (fv x%aJ) (fv y%aJ)
def aKV:Summ:={ T:=Bool,run:=Dn kO,enc:=λ t=>.bool t }
def aKW:FA Bool:=aKV.run
def wJ (x:Fe):Fe:=cond (oX x) (cJ f0 x) x
def aE4:Summ:={ T:=Fe,run:=AG wJ,enc:=eF }
def GJ:FA Fe:=aE4.run
def lS (t:List Int):AV:=.agg (.ints .u8 t) 32
def N0:Summ:={ T:=List Int,run:=AG λ x=>lo 32 (fv x%aJ),enc:=lS }
def A7:FA (List Int):=N0.run
def aE5:Summ:={ T:=Fe,run:=KO λ a=>fe (val a%aJ),enc:=eF }
def LR:FA Fe:=aE5.run
def JB:Summ where
 T:=Fe
 run:=λ
  | [.c (.s (.pl (.str s)))]=>cond (decide (s.length <= 1099511627776)) (some (fe ((z6 s).1%aJ))) none
  | _=>none
 enc:=eF
def CG:FA Fe:=JB.run
def fR (a:List Int):Bool:=Nat.beq a.length 32 && jE a
def wK {T:Type} (F:List Int->T):FA T
 | [.c (.s (.pl (.agg (.ints .u8 a) 32)))]=>cond (fR a) (some (F a)) none
 | _=>none
abbrev Do:Nat:=57896044618658097711785492504343953926634992332820282019728792003956564819968
def rU (a:List Int):Fe:=fe (vB a%57896044618658097711785492504343953926634992332820282019728792003956564819968%aJ)
def UN:Summ:={ T:=Fe,run:=wK rU,enc:=eF }
def N1:FA Fe:=UN.run
def E8 (a:List Int):Fe × Int:=cond (Nat.blt (vB a) aJ) (fe (vB a),0) (f0,7)
def HN:Summ:={ T:=Fe × Int,run:=wK E8,enc:=λ t=>.tup [.s (.pl (.agg (.ints .u64 [(t.1.a:Int),(t.1.b:Int),(t.1.c:Int),(t.1.d:Int),(t.1.e:Int)]) 5)),.s (.pl (.int .i64 t.2))] }
def N2:FA (Fe × Int):=HN.run
def iF:Fe:=fe 19681161376707505956807079304988542015446066515923890162744021073123829784752
def sFI:Summ where
 T:=Unit
 run:=λ
  | []=>some ()
  | _=>none
 enc:=λ _=>eF iF
def rFI:FA Unit:=sFI.run
def dO (u v:Fe):Fe:=aO (aO u (aO (aO v v) v)) (LQ (aO u (aO (aO (aO (aO v v) v) (aO (aO v v) v)) v)))
def mI (u v:Fe):Fe × Bool :=
 (wJ (cond (kO (aO v (aO (dO u v) (dO u v))) (cJ f0 u) || kO (aO v (aO (dO u v) (dO u v))) (aO (cJ f0 u) iF)) (aO (dO u v) iF) (dO u v)),
  kO (aO v (aO (dO u v) (dO u v))) u || kO (aO v (aO (dO u v) (dO u v))) (cJ f0 u))
def Q7:Summ:={ T:=Fe × Bool,run:=Dn mI,enc:=λ t=>.tup [.s (.pl (.agg (.ints .u64 [(t.1.a:Int),(t.1.b:Int),(t.1.c:Int),(t.1.d:Int),(t.1.e:Int)]) 5)),.s (.pl (.bool t.2))] }
def LS:FA (Fe × Bool):=Q7.run
def aE6:Summ where
 T:=Nat
 run:=λ
  | [.c (.s (.pl (.str s)))]=>cond (decide (s.length <= 65536)) (some (cond (wA s) (tS 0 s) 0)) none
  | _=>none
 enc:=eN
def XK:FA Nat:=aE6.run
def sRP:Summ where
 T:=Nat
 run:=λ
  | []=>some aJ
  | _=>none
 enc:=eN
def rRP:FA Nat:=sRP.run
def mJ {T:Type} (F:Nat->T) (C:Nat->Bool):FA T
 | [.c (.s (.dat (.ints .i64 a) n 1))]=>cond (K3 a n && C (vB a)) (some (F (vB a))) none
 | _=>none
abbrev lJ:Nat:=13407807929942597099574024998205846127479365820592393377723561443721764030073546976801874298166903427690031858186486050853753882811946569946433649006084096
def aKX:Summ:={ T:=Nat,run:=mJ (λ x=>x%aJ) λ x=>Nat.blt x lJ,enc:=eN }
def aE7:FA Nat:=aKX.run
def aT5:Summ:={ T:=List Int,run:=K4 λ x=>lo 32 x,enc:=lS }
def aKY:FA (List Int):=aT5.run
def bP (x:Nat):Bool:=Nat.blt x aJ
def aE8:Summ:={ T:=Nat,run:=y4 (λ a b=>(a+b)%aJ) λ a b=>bP a && bP b,enc:=eN }
def GK:FA Nat:=aE8.run
def aE9:Summ:={ T:=Nat,run:=y4 (λ a b=>(a+aJ - b)%aJ) λ a b=>bP a && bP b,enc:=eN }
def y7:FA Nat:=aE9.run
def aFa:Summ:={ T:=Nat,run:=y4 (λ a b=>a*b%aJ) λ a b=>bP a && bP b,enc:=eN }
def oR:FA Nat:=aFa.run
def aFb:Summ:={ T:=Bool,run:=K4 λ a=>Nat.beq (a%2) 1,enc:=λ t=>.bool t }
def GL:FA Bool:=aFb.run
def oY (a:Nat):Nat:=cond (Nat.beq (a%2) 1) ((0+aJ - a)%aJ) a
def XL:Summ:={ T:=Nat,run:=mJ oY bP,enc:=eN }
def Dp:FA Nat:=XL.run
def aFc:Summ:={ T:=Nat,run:=y4 (λ a e=>a ^ e%aJ) λ a _=>bP a,enc:=eN }
def Q8:FA Nat:=aFc.run
def XM:Summ:={ T:=Nat,run:=mJ (λ a=>a ^ (aJ - 2)%aJ) bP,enc:=eN }
def LT:FA Nat:=XM.run
abbrev iN:Nat:=19681161376707505956807079304988542015446066515923890162744021073123829784752
def sRI:Summ where
 T:=Nat
 run:=λ
  | []=>some iN
  | _=>none
 enc:=eN
def rRI:FA Nat:=sRI.run
def y8 (a:Nat):Nat × Bool :=
 if a ^ ((aJ+3) / 8)%aJ*(a ^ ((aJ+3) / 8)%aJ)%aJ=a then (oY (a ^ ((aJ+3) / 8)%aJ),true)
 else (oY (a ^ ((aJ+3) / 8)%aJ*iN%aJ),decide (a ^ ((aJ+3) / 8)%aJ*iN%aJ*(a ^ ((aJ+3) / 8)%aJ*iN%aJ)%aJ=a))
def eNB (t:Nat × Bool):AV:=.tup [.s (.dat (.ints .i64 (nb t.1)) (nb t.1).length 1),.s (.pl (.bool t.2))]
def N3:Summ:={ T:=Nat × Bool,run:=mJ y8 bP,enc:=eNB }
def JC:FA (Nat × Bool):=N3.run
def Bh (u v:Nat):Nat × Bool :=
 if u=0 then (0,true) else if v=0 then (0,false) else
 if (y8 (u*(v ^ (aJ - 2)%aJ)%aJ)).2=true then ((y8 (u*(v ^ (aJ - 2)%aJ)%aJ)).1,true) else ((y8 (iN*(u*(v ^ (aJ - 2)%aJ)%aJ)%aJ)).1,false)
def aFd:Summ:={ T:=Nat × Bool,run:=y4 Bh λ a b=>bP a && bP b,enc:=eNB }
def JD:FA (Nat × Bool):=aFd.run
section
variable (T0:Type) (R0:FA T0) (aG aM:T0->Int) (T1:Type) (R1:FA T1) (aN bI:T1->Int)
def aO8:Cg:=⟨⟨dE [(160,⟨R0,λ t=>AV.tup [.s (.pl (.int .u64 (aG t))),.s (.pl (.int .u64 (aM t)))]⟩),(136,⟨R1,λ t=>AV.tup [.s (.pl (.int .u64 (aN t))),.s (.pl (.int .u64 (bI t)))]⟩)],[],dR⟩,[]⟩
theorem aT6 (fu:Nat) (p0 p1 x y:Int):bB prog Tryz.f126 (aO8 T0 R0 aG aM T1 R1 aN bI) fu [aU [p0,p1] 2,.int .u64 x,.int .u64 y]=(R0 [.int .u64 x,.int .u64 y]).bind λ t=>(R1 [.int .u64 p1,.int .u64 (aM t),.int .u64 0]).bind λ dH=>some (AV.agg (.ints .u64 ([u64.wrap (u64.wrap (p0+aG t)+bI dH)]++[aN dH])) 2):=by kernel_rfl
end
def aO9:Cg:=⟨⟨dE [],[],dR⟩,[]⟩
theorem aT7 (fu:Nat) (p0 p1:Int):bB prog Tryz.f127 aO9 fu [aU [p0,p1] 2]=some (AV.tup [.s (.pl (.int .u64 (d8 .u64 p1 2251799813685247))),.s (.pl (.int .u64 (Du .u64 (j9 .u64 p0 13) (eK .u64 p1 51))))]):=by kernel_rfl
def aPa:Cg:=⟨⟨dE [],[],dR⟩,[]⟩
theorem aT8 (fu:Nat) (n:Int):bB prog Tryz.f79 aPa fu [.int .u64 n]=some (aU [d8 .u64 n 2251799813685247,eK .u64 n 51,0,0,0] 5):=by kernel_rfl
def aPb:Cg:=⟨⟨dE [],[],dR⟩,[(4,[1,2,3,8,9],[1,2,3]),(1000004,[6],[]),(9,[1,2,3,18],[1,2,3]),(1000009,[6],[])]⟩
theorem aT9 (fu:Nat) (a b c d e:Int):bB prog Tryz.f125 aPb fu [aU [a,b,c,d,e] 5]=some (aU [u64.wrap (d8 .u64 a 2251799813685247+u64.wrap (eK .u64 e 51*19)),u64.wrap (d8 .u64 b 2251799813685247+eK .u64 a 51),u64.wrap (d8 .u64 c 2251799813685247+eK .u64 b 51),u64.wrap (d8 .u64 d 2251799813685247+eK .u64 c 51),u64.wrap (d8 .u64 e 2251799813685247+eK .u64 d 51)] 5):=by kernel_rfl
section
variable (T0:Type) (R0:FA T0) (aG aM cB cE cR:T0->Int)
def rM:Cg:=⟨⟨dE [(125,⟨R0,λ t=>aU [(aG t),(aM t),(cB t),(cE t),(cR t)] 5⟩)],[],dR⟩,[(5,[1,2,3,4],[1,2,3]),(10,[1,2,33],[1,2])]⟩
def u6 (v3 v4:Int) (aQ bA:List Int):St:={ tm:=[(1,.s (.ptr 0 0 5)),(2,.s (.ptr 1 0 5)),(3,.int .u64 v3),(4,.int .i64 v4)],hp:=[(0,{ ty:=73,n:=5,row:=Row.t (.ints .u64 aQ) }),(1,{ ty:=73,n:=5,row:=Row.t (.ints .u64 bA) })],nx:=2,sz:=64 }
def Cc:Code:=cM (bN [1,1,1,0,1,2] (bD Tryz.f130))
def aFe (fu:Nat):=lP prog (rM T0 R0 aG aM cB cE cR) fu [1,1,1,0,1,2] (bD Tryz.f130) (fT prog Tryz.f130)
abbrev aUa (fu:Nat) (v3 v4:Int) (aQ bA:List Int):=eS prog (rM T0 R0 aG aM cB cE cR) fu Cc (aFe T0 R0 aG aM cB cE cR fu ) fu (some (u6 v3 v4 aQ bA))
theorem aUb (fu:Nat) (a b c d e:Int):bB prog Tryz.f130 (rM T0 R0 aG aM cB cE cR) fu [aU [a,b,c,d,e] 5]=(R0 [aU [a,b,c,d,e] 5]).bind λ t=>(R0 [aU [aG t,aM t,cB t,cE t,cR t] 5]).bind λ t=>aUa T0 R0 aG aM cB cE cR fu (eK .u64 (u64.wrap (aG t+19)) 51) 1 [aG t,aM t,cB t,cE t,cR t] [0,0,0,0,0]:=by kernel_rfl
def Q9 (v3:Int) (aQ bA:List Int):St:={ tm:=[(1,.s (.ptr 0 0 5)),(2,.s (.ptr 1 0 5)),(3,.int .u64 v3)],hp:=[(0,{ ty:=73,n:=5,row:=Row.t (.ints .u64 aQ) }),(1,{ ty:=73,n:=5,row:=Row.t (.ints .u64 bA) })],nx:=2,sz:=64 }
def u7 (v33:Int) (aQ bA:List Int):St:={ tm:=[(1,.s (.ptr 0 0 5)),(2,.s (.ptr 1 0 5)),(33,.int .i64 v33)],hp:=[(0,{ ty:=73,n:=5,row:=Row.t (.ints .u64 aQ) }),(1,{ ty:=73,n:=5,row:=Row.t (.ints .u64 bA) })],nx:=2,sz:=64 }
def E9:Code:=cM (bN [1,1,1,1,1,0,1,2] (bD Tryz.f130))
def aFf (fu:Nat):=lP prog (rM T0 R0 aG aM cB cE cR) fu [1,1,1,1,1,0,1,2] (bD Tryz.f130) (fT prog Tryz.f130)
def RA (aQ bA:List Int):St:={ tm:=[(1,.s (.ptr 0 0 5)),(2,.s (.ptr 1 0 5))],hp:=[(0,{ ty:=73,n:=5,row:=Row.t (.ints .u64 aQ) }),(1,{ ty:=73,n:=5,row:=Row.t (.ints .u64 bA) })],nx:=2,sz:=64 }
end
section
variable (T0:Type) (R0:FA T0) (aG aM cB cE cR:T0->Int)
def aPc:Cg:=⟨⟨dE [(125,⟨R0,λ t=>aU [(aG t),(aM t),(cB t),(cE t),(cR t)] 5⟩)],[],dR⟩,[(3,[2,3,4,6],[2,4]),(1000003,[6],[])]⟩
theorem aUc (fu:Nat) (a b c d e f g h i j:Int):bB prog Tryz.f75 (aPc T0 R0 aG aM cB cE cR) fu [aU [a,b,c,d,e] 5,aU [f,g,h,i,j] 5]=(R0 [aU [u64.wrap (a+f),u64.wrap (b+g),u64.wrap (c+h),u64.wrap (d+i),u64.wrap (e+j)] 5]).bind λ t=>some (aU [aG t,aM t,cB t,cE t,cR t] 5):=by kernel_rfl
end
section
variable (T0:Type) (R0:FA T0) (aG aM cB cE cR:T0->Int)
def aPd:Cg:=⟨⟨dE [(125,⟨R0,λ t=>aU [(aG t),(aM t),(cB t),(cE t),(cR t)] 5⟩)],[],dR⟩,[(3,[2,3,4,7],[2,4]),(1000003,[6],[])]⟩
theorem aUd (fu:Nat) (a b c d e f g h i j:Int):bB prog Tryz.f77 (aPd T0 R0 aG aM cB cE cR) fu [aU [a,b,c,d,e] 5,aU [f,g,h,i,j] 5]=(R0 [aU [u64.wrap (a+u64.wrap (4503599627370458 - f)),u64.wrap (b+u64.wrap (4503599627370494 - g)),u64.wrap (c+u64.wrap (4503599627370494 - h)),u64.wrap (d+u64.wrap (4503599627370494 - i)),u64.wrap (e+u64.wrap (4503599627370494 - j))] 5]).bind λ t=>some (aU [aG t,aM t,cB t,cE t,cR t] 5):=by kernel_rfl
end
section
variable (T0:Type) (R0:FA T0) (aG aM cB cE cR:T0->Int)
def aPe:Cg:=⟨⟨dE [(77,⟨R0,λ t=>aU [(aG t),(aM t),(cB t),(cE t),(cR t)] 5⟩)],[],dR⟩,[]⟩
theorem aUe (fu:Nat) (a b c d e:Int):bB prog Tryz.f84 (aPe T0 R0 aG aM cB cE cR) fu [aU [a,b,c,d,e] 5]=(R0 [aU [0,0,0,0,0] 5,aU [a,b,c,d,e] 5]).bind λ t=>some (aU [aG t,aM t,cB t,cE t,cR t] 5):=by kernel_rfl
end
section
variable (T0:Type) (R0:FA T0) (aG aM:T0->Int) (T1:Type) (R1:FA T1) (aN bI:T1->Int) (T2:Type) (R2:FA T2) (bC bW dW eT eX:T2->Int)
def cW:Cg:=⟨⟨dE [(126,⟨R0,λ t=>aU [(aG t),(aM t)] 2⟩),(127,⟨R1,λ t=>AV.tup [.s (.pl (.int .u64 (aN t))),.s (.pl (.int .u64 (bI t)))]⟩),(125,⟨R2,λ t=>aU [(bC t),(bW t),(dW t),(eT t),(eX t)] 5⟩)],[],dR⟩,[(4,[3,4,5,17,18],[4,5]),(7,[3,4,5,6,7,17,18,23,24],[3,4,5,17,18]),(17,[4,10,11,50,51],[4,10,11]),(1000017,[6],[]),(22,[4,10,66,67],[4,10])]⟩
def qQ (x17:List Int) (xB:Int) (aQ bA cT:List Int):St:={ tm:=[(3,.s (.ptr 0 0 5)),(4,.s (.ptr 1 0 5)),(5,.s (.ptr 2 0 10)),(17,.agg (.ints .u64 x17) 5),(18,.int .i64 xB)],hp:=[(0,{ ty:=73,n:=5,row:=Row.t (.ints .u64 aQ) }),(1,{ ty:=73,n:=5,row:=Row.t (.ints .u64 bA) }),(2,{ ty:=162,n:=10,row:=Row.t (.ints .u64 cT) })],nx:=3,sz:=89 }
def u9:Code:=cM (bN [1,1,0,1,2] (bD Tryz.f76))
def aFg (fu:Nat):=lP prog (cW T0 R0 aG aM T1 R1 aN bI T2 R2 bC bW dW eT eX) fu [1,1,0,1,2] (bD Tryz.f76) (fT prog Tryz.f76)
abbrev aUf (fu:Nat) (x17:List Int) (xB:Int) (aQ bA cT:List Int):=eS prog (cW T0 R0 aG aM T1 R1 aN bI T2 R2 bC bW dW eT eX) fu u9 (aFg T0 R0 aG aM T1 R1 aN bI T2 R2 bC bW dW eT eX fu ) fu (some (qQ x17 xB aQ bA cT))
theorem aUg (fu:Nat) (a b c d e f g h i j:Int):bB prog Tryz.f76 (cW T0 R0 aG aM T1 R1 aN bI T2 R2 bC bW dW eT eX) fu [aU [a,b,c,d,e] 5,aU [f,g,h,i,j] 5]=aUf T0 R0 aG aM T1 R1 aN bI T2 R2 bC bW dW eT eX fu [a,b,c,d,e] 0 [f,g,h,i,j] [0,0,0,0,0] [0,0,0,0,0,0,0,0,0,0]:=by kernel_rfl
def bX (v6 v7:Int) (x17:List Int) (xB:Int) (x23:List Int) (Sk:Int) (aQ bA cT:List Int):St:={ tm:=[(3,.s (.ptr 0 0 5)),(4,.s (.ptr 1 0 5)),(5,.s (.ptr 2 0 10)),(6,.int .i64 v6),(7,.int .u64 v7),(17,.agg (.ints .u64 x17) 5),(18,.int .i64 xB),(23,.agg (.ints .u64 x23) 5),(24,.int .i64 Sk)],hp:=[(0,{ ty:=73,n:=5,row:=Row.t (.ints .u64 aQ) }),(1,{ ty:=73,n:=5,row:=Row.t (.ints .u64 bA) }),(2,{ ty:=162,n:=10,row:=Row.t (.ints .u64 cT) })],nx:=3,sz:=89 }
def dU:Code:=cM (bN [1,1,0,1,2,6,1,1,0,2,1,1,2] (bD Tryz.f76))
def vA {β:Type} (fu:Nat) (G:FG β) (H:FH β):=lP prog (cW T0 R0 aG aM T1 R1 aN bI T2 R2 bC bW dW eT eX) fu [1,1,0,2,1,1,2] u9 (vE (cW T0 R0 aG aM T1 R1 aN bI T2 R2 bC bW dW eT eX) u9 G H)
def RC (aQ bA:List Int):St:={ tm:=[(4,.s (.ptr 0 0 5)),(5,.s (.ptr 1 0 10))],hp:=[(0,{ ty:=73,n:=5,row:=Row.t (.ints .u64 aQ) }),(1,{ ty:=162,n:=10,row:=Row.t (.ints .u64 bA) })],nx:=2,sz:=89 }
def lT (x17:List Int) (xB:Int) (aQ bA cT:List Int):St:={ tm:=[(3,.s (.ptr 0 0 5)),(4,.s (.ptr 1 0 5)),(5,.s (.ptr 2 0 10)),(17,.agg (.ints .u64 x17) 5),(18,.int .i64 xB)],hp:=[(0,{ ty:=73,n:=5,row:=Row.t (.ints .u64 aQ) }),(1,{ ty:=73,n:=5,row:=Row.t (.ints .u64 bA) }),(2,{ ty:=162,n:=10,row:=Row.t (.ints .u64 cT) })],nx:=3,sz:=89 }
def qR (x66:List Int) (v67:Int) (aQ bA:List Int):St:={ tm:=[(4,.s (.ptr 0 0 5)),(10,.s (.ptr 1 0 5)),(66,.agg (.ints .u64 x66) 5),(67,.int .i64 v67)],hp:=[(0,{ ty:=73,n:=5,row:=Row.t (.ints .u64 aQ) }),(1,{ ty:=73,n:=5,row:=Row.t (.ints .u64 bA) })],nx:=2,sz:=89 }
def Cd:Code:=cM (bN [1,1,1,1,1,1,0,1,2] (bD Tryz.f76))
def aFh (fu:Nat):=lP prog (cW T0 R0 aG aM T1 R1 aN bI T2 R2 bC bW dW eT eX) fu [1,1,1,1,1,1,0,1,2] (bD Tryz.f76) (fT prog Tryz.f76)
def RD (aQ bA:List Int):St:={ tm:=[(4,.s (.ptr 0 0 5)),(10,.s (.ptr 1 0 5))],hp:=[(0,{ ty:=73,n:=5,row:=Row.t (.ints .u64 aQ) }),(1,{ ty:=73,n:=5,row:=Row.t (.ints .u64 bA) })],nx:=2,sz:=89 }
theorem aFi (fu:Nat) (aQ bA:List Int):aFh T0 R0 aG aM T1 R1 aN bI T2 R2 bC bW dW eT eX fu  (Ex.exit 6) (RD aQ bA)=(R2 [.agg (.ints .u64 bA) 5]).bind λ t=>some (aU [bC t,bW t,dW t,eT t,eX t] 5):=by kernel_rfl
end
section
variable (T0:Type) (R0:FA T0) (aG aM cB cE cR:T0->Int)
def aPf:Cg:=⟨⟨dE [(76,⟨R0,λ t=>aU [(aG t),(aM t),(cB t),(cE t),(cR t)] 5⟩)],[],dR⟩,[]⟩
theorem aUh (fu:Nat) (a b c d e:Int):bB prog Tryz.f80 (aPf T0 R0 aG aM cB cE cR) fu [aU [a,b,c,d,e] 5]=(R0 [aU [a,b,c,d,e] 5,aU [a,b,c,d,e] 5]).bind λ t=>some (aU [aG t,aM t,cB t,cE t,cR t] 5):=by kernel_rfl
end
section
variable (T0:Type) (R0:FA T0) (aG aM cB cE cR:T0->Int) (T1:Type) (R1:FA T1) (aN bI gV gW iL:T1->Int) (T2:Type) (R2:FA T2) (bC bW dW eT eX:T2->Int)
def RE:Cg:=⟨⟨dE [(79,⟨R0,λ t=>aU [(aG t),(aM t),(cB t),(cE t),(cR t)] 5⟩),(80,⟨R1,λ t=>aU [(aN t),(bI t),(gV t),(gW t),(iL t)] 5⟩),(76,⟨R2,λ t=>aU [(bC t),(bW t),(dW t),(eT t),(eX t)] 5⟩)],[],dR⟩,[(5,[3,6,7,8,9],[6,7])]⟩
def FB (v8 v9:Int) (aQ bA cT:List Int):St:={ tm:=[(3,.s (.ptr 0 0 5)),(6,.s (.ptr 1 0 5)),(7,.s (.ptr 2 0 5)),(8,.int .u64 v8),(9,.int .i64 v9)],hp:=[(0,{ ty:=73,n:=5,row:=Row.t (.ints .u64 aQ) }),(1,{ ty:=73,n:=5,row:=Row.t (.ints .u64 bA) }),(2,{ ty:=73,n:=5,row:=Row.t (.ints .u64 cT) })],nx:=3,sz:=34 }
def UO:Code:=cM (bN [1,1,1,0,1,2] (bD Tryz.f161))
def UP (fu:Nat):=lP prog (RE T0 R0 aG aM cB cE cR T1 R1 aN bI gV gW iL T2 R2 bC bW dW eT eX) fu [1,1,1,0,1,2] (bD Tryz.f161) (fT prog Tryz.f161)
abbrev aUi (fu:Nat) (v8 v9:Int) (aQ bA cT:List Int):=eS prog (RE T0 R0 aG aM cB cE cR T1 R1 aN bI gV gW iL T2 R2 bC bW dW eT eX) fu UO (UP T0 R0 aG aM cB cE cR T1 R1 aN bI gV gW iL T2 R2 bC bW dW eT eX fu ) fu (some (FB v8 v9 aQ bA cT))
theorem aUj (fu:Nat) (a b c d e n l:Int):bB prog Tryz.f161 (RE T0 R0 aG aM cB cE cR T1 R1 aN bI gV gW iL T2 R2 bC bW dW eT eX) fu [aU [a,b,c,d,e] 5,.int .i64 n,.int .u64 l]=(R0 [.int .u64 1]).bind λ t=>aUi T0 R0 aG aM cB cE cR T1 R1 aN bI gV gW iL T2 R2 bC bW dW eT eX fu (u64.wrap (256 - l)) (i64.wrap (n - 1)) [a,b,c,d,e] [0,0,0,0,0] [aG t,aM t,cB t,cE t,cR t]:=by kernel_rfl
def RF (aQ bA:List Int):St:={ tm:=[(6,.s (.ptr 0 0 5)),(7,.s (.ptr 1 0 5))],hp:=[(0,{ ty:=73,n:=5,row:=Row.t (.ints .u64 aQ) }),(1,{ ty:=73,n:=5,row:=Row.t (.ints .u64 bA) })],nx:=2,sz:=34 }
theorem aFj {β:Type} (fu:Nat) (G:FG β) (H:FH β) (v8 v9:Int) (aQ bA cT:List Int):fI prog (RE T0 R0 aG aM cB cE cR T1 R1 aN bI gV gW iL T2 R2 bC bW dW eT eX) fu UO G H (FB v8 v9 aQ bA cT)=bif decide (0 <= v9) then (R1 [.agg (.ints .u64 cT) 5]).bind λ t=>bif decide (8 <= v9) then (R2 [aU [aN t,bI t,gV t,gW t,iL t] 5,.agg (.ints .u64 aQ) 5]).bind λ t=>G (some (FB v8 (i64.wrap (v9 - 1)) aQ bA [bC t,bW t,dW t,eT t,eX t])) else bif decide (v9 < 0) then none else bif decide (d8 .u64 (eK .u64 v8 v9) (1:Int)=1) then (R2 [aU [aN t,bI t,gV t,gW t,iL t] 5,.agg (.ints .u64 aQ) 5]).bind λ t=>G (some (FB v8 (i64.wrap (v9 - 1)) aQ bA [bC t,bW t,dW t,eT t,eX t])) else G (some (FB v8 (i64.wrap (v9 - 1)) aQ bA [aN t,bI t,gV t,gW t,iL t])) else H (Ex.exit 0) (some (RF bA cT)):=by kernel_rfl
theorem aFk (fu:Nat) (aQ bA:List Int):UP T0 R0 aG aM cB cE cR T1 R1 aN bI gV gW iL T2 R2 bC bW dW eT eX fu  (Ex.exit 0) (RF aQ bA)=some (AV.agg (.ints .u64 bA) 5):=by kernel_rfl
end
section
variable (T0:Type) (R0:FA T0) (aG aM cB cE cR:T0->Int)
end
section
variable (T0:Type) (R0:FA T0) (aG aM cB cE cR:T0->Int)
def aPg:Cg:=⟨⟨dE [(161,⟨R0,λ t=>aU [(aG t),(aM t),(cB t),(cE t),(cR t)] 5⟩)],[],dR⟩,[]⟩
theorem aUk (fu:Nat) (a b c d e:Int):bB prog Tryz.f128 (aPg T0 R0 aG aM cB cE cR) fu [aU [a,b,c,d,e] 5]=(R0 [aU [a,b,c,d,e] 5,.int .i64 252,.int .u64 3]).bind λ t=>some (aU [aG t,aM t,cB t,cE t,cR t] 5):=by kernel_rfl
end
section
variable (T0:Type) (R0:FA T0) (aG aM cB cE cR:T0->Int)
def aPh:Cg:=⟨⟨dE [(130,⟨R0,λ t=>aU [(aG t),(aM t),(cB t),(cE t),(cR t)] 5⟩)],[],dR⟩,[]⟩
theorem aUl (fu:Nat) (a b c d e:Int):bB prog Tryz.f81 (aPh T0 R0 aG aM cB cE cR) fu [aU [a,b,c,d,e] 5]=(R0 [aU [a,b,c,d,e] 5]).bind λ t=>some (AV.bool (decide (d8 .u64 (aG t) (1:Int)=1))):=by kernel_rfl
end
section
variable (T0:Type) (R0:FA T0) (aG aM cB cE cR:T0->Int)
def aPi:Cg:=⟨⟨dE [(130,⟨R0,λ t=>aU [(aG t),(aM t),(cB t),(cE t),(cR t)] 5⟩)],[],dR⟩,[]⟩
theorem aUm (fu:Nat) (a b c d e:Int):bB prog Tryz.f119 (aPi T0 R0 aG aM cB cE cR) fu [aU [a,b,c,d,e] 5]=(R0 [aU [a,b,c,d,e] 5]).bind λ t=>some (AV.bool (decide ([aG t,aM t,cB t,cE t,cR t]=[0,0,0,0,0]))):=by kernel_rfl
end
section
variable (T0:Type) (R0:FA T0) (aG aM cB cE cR:T0->Int)
def aPj:Cg:=⟨⟨dE [(130,⟨R0,λ t=>aU [(aG t),(aM t),(cB t),(cE t),(cR t)] 5⟩)],[],dR⟩,[]⟩
theorem aUo (fu:Nat) (a b c d e f g h i j:Int):bB prog Tryz.f129 (aPj T0 R0 aG aM cB cE cR) fu [aU [a,b,c,d,e] 5,aU [f,g,h,i,j] 5]=(R0 [aU [a,b,c,d,e] 5]).bind λ t=>(R0 [aU [f,g,h,i,j] 5]).bind λ dH=>some (AV.bool (decide ([aG t,aM t,cB t,cE t,cR t]=[aG dH,aM dH,cB dH,cE dH,cR dH]))):=by kernel_rfl
end
section
variable (T0:Type) (R0:FA T0) (aG:T0->Bool) (T1:Type) (R1:FA T1) (aN bI gV gW iL:T1->Int)
def aPk:Cg:=⟨⟨dE [(81,⟨R0,λ t=>AV.bool (aG t)⟩),(84,⟨R1,λ t=>aU [(aN t),(bI t),(gV t),(gW t),(iL t)] 5⟩)],[],dR⟩,[]⟩
theorem aUp (fu:Nat) (a b c d e:Int):bB prog Tryz.f85 (aPk T0 R0 aG T1 R1 aN bI gV gW iL) fu [aU [a,b,c,d,e] 5]=(R0 [aU [a,b,c,d,e] 5]).bind λ t=>bif aG t then (R1 [aU [a,b,c,d,e] 5]).bind λ t=>some (aU [aN t,bI t,gV t,gW t,iL t] 5) else some (aU [a,b,c,d,e] 5):=by kernel_rfl
end
section
variable (T0:Type) (R0:FA T0) (aG aM cB cE cR:T0->Int)
def Dq:Cg:=⟨⟨dE [(130,⟨R0,λ t=>aU [(aG t),(aM t),(cB t),(cE t),(cR t)] 5⟩)],[],dR⟩,[(4,[2,3,10,11],[2,3]),(7,[2,3,4,5,10,11,15],[2,3,10,11])]⟩
def JE (x10:List Int) (gF:Int) (aQ bA:List Int):St:={ tm:=[(2,.s (.ptr 0 0 32)),(3,.s (.ptr 1 0 32)),(10,.agg (.ints .u64 x10) 5),(11,.int .i64 gF)],hp:=[(0,{ ty:=23,n:=32,row:=Row.t (.ints .u8 aQ) }),(1,{ ty:=23,n:=32,row:=Row.t (.ints .u8 bA) })],nx:=2,sz:=39 }
def FC:Code:=cM (bN [1,1,0,1,2] (bD Tryz.f86))
def JF (fu:Nat):=lP prog (Dq T0 R0 aG aM cB cE cR) fu [1,1,0,1,2] (bD Tryz.f86) (fT prog Tryz.f86)
abbrev aUq (fu:Nat) (x10:List Int) (gF:Int) (aQ bA:List Int):=eS prog (Dq T0 R0 aG aM cB cE cR) fu FC (JF T0 R0 aG aM cB cE cR fu ) fu (some (JE x10 gF aQ bA))
theorem aUr (fu:Nat) (a b c d e:Int):bB prog Tryz.f86 (Dq T0 R0 aG aM cB cE cR) fu [aU [a,b,c,d,e] 5]=(R0 [aU [a,b,c,d,e] 5]).bind λ t=>aUq T0 R0 aG aM cB cE cR fu [aG t,aM t,cB t,cE t,cR t] 0 [0,0,0,0,0,0,0,0,0,0,0,0,0,0,0,0,0,0,0,0,0,0,0,0,0,0,0,0,0,0,0,0] [0,0,0,0,0,0,0,0,0,0,0,0,0,0,0,0,0,0,0,0,0,0,0,0,0,0,0,0,0,0,0,0]:=by kernel_rfl
def N4 (v4 v5:Int) (x10:List Int) (gF lW:Int) (aQ bA:List Int):St:={ tm:=[(2,.s (.ptr 0 0 32)),(3,.s (.ptr 1 0 32)),(4,.int .i64 v4),(5,.int .u64 v5),(10,.agg (.ints .u64 x10) 5),(11,.int .i64 gF),(15,.int .i64 lW)],hp:=[(0,{ ty:=23,n:=32,row:=Row.t (.ints .u8 aQ) }),(1,{ ty:=23,n:=32,row:=Row.t (.ints .u8 bA) })],nx:=2,sz:=39 }
def UQ:Code:=cM (bN [1,1,0,1,2,6,1,1,0,2,1,1,2] (bD Tryz.f86))
def UR {β:Type} (fu:Nat) (G:FG β) (H:FH β):=lP prog (Dq T0 R0 aG aM cB cE cR) fu [1,1,0,2,1,1,2] FC (vE (Dq T0 R0 aG aM cB cE cR) FC G H)
abbrev aUs {β:Type} (fu:Nat) (G:FG β) (H:FH β) (v4 v5:Int) (x10:List Int) (gF lW:Int) (aQ bA:List Int):=eS prog (Dq T0 R0 aG aM cB cE cR) fu UQ (UR T0 R0 aG aM cB cE cR fu G H) fu (some (N4 v4 v5 x10 gF lW aQ bA))
def RG (aQ bA:List Int):St:={ tm:=[(2,.s (.ptr 0 0 32)),(3,.s (.ptr 1 0 32))],hp:=[(0,{ ty:=23,n:=32,row:=Row.t (.ints .u8 aQ) }),(1,{ ty:=23,n:=32,row:=Row.t (.ints .u8 bA) })],nx:=2,sz:=39 }
theorem aFl {β:Type} (fu:Nat) (G:FG β) (H:FH β) (x10:List Int) (gF:Int) (aQ bA:List Int):fI prog (Dq T0 R0 aG aM cB cE cR) fu FC G H (JE x10 gF aQ bA)=bif decide (gF < 5) then bif decide (0 <= gF /\ gF < 5) then aUs T0 R0 aG aM cB cE cR fu G H gF (x10.getD gF.toNat 0) x10 gF 0 aQ bA else none else H (Ex.exit 0) (some (RG aQ bA)):=by kernel_rfl
def RH (x10:List Int) (gF:Int) (aQ bA:List Int):St:={ tm:=[(2,.s (.ptr 0 0 32)),(3,.s (.ptr 1 0 32)),(10,.agg (.ints .u64 x10) 5),(11,.int .i64 gF)],hp:=[(0,{ ty:=23,n:=32,row:=Row.t (.ints .u8 aQ) }),(1,{ ty:=23,n:=32,row:=Row.t (.ints .u8 bA) })],nx:=2,sz:=39 }
theorem aFm {β:Type} (fu:Nat) (G:FG β) (H:FH β) (v4 v5:Int) (x10:List Int) (gF lW:Int) (aQ bA:List Int):fI prog (Dq T0 R0 aG aM cB cE cR) fu UQ G H (N4 v4 v5 x10 gF lW aQ bA)=bif decide (lW < 51) then bif decide (0 <= i64.wrap ((i64.wrap (i64.wrap (51*v4)+lW)).tdiv 8) /\ i64.wrap ((i64.wrap (i64.wrap (51*v4)+lW)).tdiv 8) < 32) then bif decide (lW < 0) then none else bif decide ((i64.wrap (i64.wrap (51*v4)+lW)).tmod (8:Int) < 0) then none else bif decide (0 <= i64.wrap ((i64.wrap (i64.wrap (51*v4)+lW)).tdiv 8) /\ i64.wrap ((i64.wrap (i64.wrap (51*v4)+lW)).tdiv 8) < 32) then G (some (N4 v4 v5 x10 gF (i64.wrap (lW+1)) aQ (bA.set (0+(i64.wrap ((i64.wrap (i64.wrap (51*v4)+lW)).tdiv 8)).toNat) (Du .u8 (bA.getD (0+(i64.wrap ((i64.wrap (i64.wrap (51*v4)+lW)).tdiv 8)).toNat) 0) (j9 .u8 (u8.wrap (d8 .u64 (eK .u64 v5 lW) 1)) ((i64.wrap (i64.wrap (51*v4)+lW)).tmod 8)))))) else none else none else H (Ex.exit 2) (some (RH x10 gF aQ bA)):=by kernel_rfl
theorem aFn (fu:Nat) (aQ bA:List Int):JF T0 R0 aG aM cB cE cR fu  (Ex.exit 0) (RG aQ bA)=some (AV.agg (.ints .u8 bA) 32):=by kernel_rfl
theorem aFo {β:Type} (fu:Nat) (G:FG β) (H:FH β) (x10:List Int) (gF:Int) (aQ bA:List Int):UR T0 R0 aG aM cB cE cR fu G H (Ex.exit 2) (RH x10 gF aQ bA)=G (some (JE x10 (i64.wrap (gF+1)) aQ bA)):=by kernel_rfl
end
section
variable (T0:Type) (R0:FA T0) (aG:T0->List Int) (T1:Type) (R1:FA T1) (aN:T1->List Int) (T2:Type) (R2:FA T2) (bC:T2->List Int) (bW:T2->Bool) (T3:Type) (R3:FA T3) (bO cI:T3->List Int) (qG:T3->Int)
def CH:Cg:=⟨⟨dE [(105,⟨R0,λ t=>AV.agg (.ints .u64 (aG t)) 8⟩),(133,⟨R1,λ t=>AV.agg (.ints .u64 (aN t)) 8⟩),(92,⟨R2,λ t=>AV.tup [.s (.pl (.agg (.ints .u64 (bC t)) 8)),.s (.pl (.bool (bW t)))]⟩),(187,⟨R3,λ t=>AV.tup [.s (.pl (.agg (.ints .u64 (bO t)) 8)),.s (.pl (.agg (.ints .u64 (cI t)) 8)),.s (.pl (.int .i64 (qG t)))]⟩)],[],dR⟩,[(6,[1,2,5,21],[2,5])]⟩
def qS (v21:Int) (aQ bA cT:List Int):St:={ tm:=[(1,.s (.ptr 0 0 8)),(2,.s (.ptr 1 0 5)),(5,.s (.ptr 2 0 5)),(21,.int .i64 v21)],hp:=[(0,{ ty:=32,n:=8,row:=Row.t (.ints .u64 aQ) }),(1,{ ty:=73,n:=5,row:=Row.t (.ints .u64 bA) }),(2,{ ty:=73,n:=5,row:=Row.t (.ints .u64 cT) })],nx:=3,sz:=35 }
def AH:Code:=cM (bN [1,1,1,1,0,1,2] (bD Tryz.f162))
def aFp (fu:Nat):=lP prog (CH T0 R0 aG T1 R1 aN T2 R2 bC bW T3 R3 bO cI qG) fu [1,1,1,1,0,1,2] (bD Tryz.f162) (fT prog Tryz.f162)
abbrev aUt (fu:Nat) (v21:Int) (aQ bA cT:List Int):=eS prog (CH T0 R0 aG T1 R1 aN T2 R2 bC bW T3 R3 bO cI qG) fu AH (aFp T0 R0 aG T1 R1 aN T2 R2 bC bW T3 R3 bO cI qG fu ) fu (some (qS v21 aQ bA cT))
theorem aUu (fu:Nat) (a:List Int):bB prog Tryz.f162 (CH T0 R0 aG T1 R1 aN T2 R2 bC bW T3 R3 bO cI qG) fu [W8 a]=(R0 [.int .u64 1]).bind λ t=>(R1 [.agg (.ints .u64 (aG t)) 8,.int .i64 255]).bind λ t=>(R0 [.int .u64 19]).bind λ dH=>(R2 [.agg (.ints .u64 (aN t)) 8,.agg (.ints .u64 (aG dH)) 8]).bind λ t=>(R3 [.agg (.ints .u64 a) 8,.agg (.ints .u64 (bC t)) 8]).bind λ t=>aUt T0 R0 aG T1 R1 aN T2 R2 bC bW T3 R3 bO cI qG fu 0 (cI t) [0,0,0,0,0] [0,0,0,0,0]:=by kernel_rfl
def RI (aQ bA:List Int):St:={ tm:=[(2,.s (.ptr 0 0 5)),(5,.s (.ptr 1 0 5))],hp:=[(0,{ ty:=73,n:=5,row:=Row.t (.ints .u64 aQ) }),(1,{ ty:=73,n:=5,row:=Row.t (.ints .u64 bA) })],nx:=2,sz:=35 }
theorem aFq (fu:Nat) (aQ bA:List Int):aFp T0 R0 aG T1 R1 aN T2 R2 bC bW T3 R3 bO cI qG fu  (Ex.exit 0) (RI aQ bA)=some (AV.agg (.ints .u64 bA) 5):=by kernel_rfl
end
section
variable (T0:Type) (R0:FA T0) (aG:T0->List Int) (aM:T0->Int) (T1:Type) (R1:FA T1) (aN bI gV gW iL:T1->Int)
def aPl:Cg:=⟨⟨dE [(132,⟨R0,λ t=>AV.tup [.s (.pl (.agg (.ints .u64 (aG t)) 8)),.s (.pl (.int .i64 (aM t)))]⟩),(162,⟨R1,λ t=>aU [(aN t),(bI t),(gV t),(gW t),(iL t)] 5⟩)],[],dR⟩,[]⟩
theorem aUv (fu:Nat) (s:Str):bB prog Tryz.f131 (aPl T0 R0 aG aM T1 R1 aN bI gV gW iL) fu [.str s]=(R0 [.str s]).bind λ t=>(R1 [.agg (.ints .u64 (aG t)) 8]).bind λ t=>some (aU [aN t,bI t,gV t,gW t,iL t] 5):=by kernel_rfl
end
section
variable (T0:Type) (R0:FA T0) (aG:T0->List Int) (aM:T0->Int) (T1:Type) (R1:FA T1) (aN bI gV gW iL:T1->Int)
def aPm:Cg:=⟨⟨dE [(38,⟨R0,λ t=>AV.tup [.s (.pl (.agg (.ints .u64 (aG t)) 8)),.s (.pl (.int .i64 (aM t)))]⟩),(162,⟨R1,λ t=>aU [(aN t),(bI t),(gV t),(gW t),(iL t)] 5⟩)],[],dR⟩,[]⟩
theorem aUw (fu:Nat) (a:List Int):bB prog Tryz.f157 (aPm T0 R0 aG aM T1 R1 aN bI gV gW iL) fu [.agg (.ints .u8 a) 32]=(R0 [.str (List.map b8 (List.take 32 (List.drop 0 (a.set 31 (d8 .u8 (a.getD 31 0) 127)))))]).bind λ t=>(R1 [.agg (.ints .u64 (aG t)) 8]).bind λ t=>some (aU [aN t,bI t,gV t,gW t,iL t] 5):=by kernel_rfl
end
section
variable (T0:Type) (R0:FA T0) (aG aM cB cE cR:T0->Int) (T1:Type) (R1:FA T1) (aN:T1->List Int)
def aPn:Cg:=⟨⟨dE [(157,⟨R0,λ t=>aU [(aG t),(aM t),(cB t),(cE t),(cR t)] 5⟩),(86,⟨R1,λ t=>AV.agg (.ints .u8 (aN t)) 32⟩)],[],dR⟩,[]⟩
theorem aUx (fu:Nat) (a:List Int):bB prog Tryz.f117 (aPn T0 R0 aG aM cB cE cR T1 R1 aN) fu [.agg (.ints .u8 a) 32]=(R0 [.agg (.ints .u8 a) 32]).bind λ t=>(R1 [aU [aG t,aM t,cB t,cE t,cR t] 5]).bind λ dH=>bif !decide (aN dH=a) then some (AV.tup [.s (.pl (.agg (.ints .u64 [0,0,0,0,0]) 5)),.s (.pl (.int .i64 7))]) else some (AV.tup [.s (.pl (.agg (.ints .u64 [aG t,aM t,cB t,cE t,cR t]) 5)),.s (.pl (.int .i64 0))]):=by kernel_rfl
end
section
variable (T0:Type) (R0:FA T0) (aG aM:T0->Int) (T1:Type) (R1:FA T1) (aN bI:T1->Int) (T2:Type) (R2:FA T2) (bC bW dW eT eX:T2->Int)
theorem aKZ {β:Type} (fu:Nat) (G:FG β) (H:FH β) (v:Int) (xs zs ys:List Int) (f g h i j s0 s1 s2 s3 s4 s5 s6 s7 s8 s9:Int):fI prog (cW T0 R0 aG aM T1 R1 aN bI T2 R2 bC bW dW eT eX) fu dU G H (bX 0 v xs 0 [f,g,h,i,j] 0 zs ys [s0,s1,s2,s3,s4,s5,s6,s7,s8,s9]) =
 (R0 [AV.agg (TRow.ints u64 [s0,s1]) 2,AV.int u64 v,AV.int u64 f]).bind λ (t:T0)=>G (some (bX 0 v xs 0 [f,g,h,i,j] 1 zs ys [aG t,aM t,s2,s3,s4,s5,s6,s7,s8,s9])):=by kernel_rfl
theorem aK0 {β:Type} (fu:Nat) (G:FG β) (H:FH β) (v:Int) (xs zs ys:List Int) (f g h i j s0 s1 s2 s3 s4 s5 s6 s7 s8 s9:Int):fI prog (cW T0 R0 aG aM T1 R1 aN bI T2 R2 bC bW dW eT eX) fu dU G H (bX 0 v xs 0 [f,g,h,i,j] 1 zs ys [s0,s1,s2,s3,s4,s5,s6,s7,s8,s9]) =
 (R0 [AV.agg (TRow.ints u64 [s2,s3]) 2,AV.int u64 v,AV.int u64 g]).bind λ (t:T0)=>G (some (bX 0 v xs 0 [f,g,h,i,j] 2 zs ys [s0,s1,aG t,aM t,s4,s5,s6,s7,s8,s9])):=by kernel_rfl
theorem aK1 {β:Type} (fu:Nat) (G:FG β) (H:FH β) (v:Int) (xs zs ys:List Int) (f g h i j s0 s1 s2 s3 s4 s5 s6 s7 s8 s9:Int):fI prog (cW T0 R0 aG aM T1 R1 aN bI T2 R2 bC bW dW eT eX) fu dU G H (bX 0 v xs 0 [f,g,h,i,j] 2 zs ys [s0,s1,s2,s3,s4,s5,s6,s7,s8,s9]) =
 (R0 [AV.agg (TRow.ints u64 [s4,s5]) 2,AV.int u64 v,AV.int u64 h]).bind λ (t:T0)=>G (some (bX 0 v xs 0 [f,g,h,i,j] 3 zs ys [s0,s1,s2,s3,aG t,aM t,s6,s7,s8,s9])):=by kernel_rfl
theorem aK2 {β:Type} (fu:Nat) (G:FG β) (H:FH β) (v:Int) (xs zs ys:List Int) (f g h i j s0 s1 s2 s3 s4 s5 s6 s7 s8 s9:Int):fI prog (cW T0 R0 aG aM T1 R1 aN bI T2 R2 bC bW dW eT eX) fu dU G H (bX 0 v xs 0 [f,g,h,i,j] 3 zs ys [s0,s1,s2,s3,s4,s5,s6,s7,s8,s9]) =
 (R0 [AV.agg (TRow.ints u64 [s6,s7]) 2,AV.int u64 v,AV.int u64 i]).bind λ (t:T0)=>G (some (bX 0 v xs 0 [f,g,h,i,j] 4 zs ys [s0,s1,s2,s3,s4,s5,aG t,aM t,s8,s9])):=by kernel_rfl
theorem aK3 {β:Type} (fu:Nat) (G:FG β) (H:FH β) (v:Int) (xs zs ys:List Int) (f g h i j s0 s1 s2 s3 s4 s5 s6 s7 s8 s9:Int):fI prog (cW T0 R0 aG aM T1 R1 aN bI T2 R2 bC bW dW eT eX) fu dU G H (bX 0 v xs 0 [f,g,h,i,j] 4 zs ys [s0,s1,s2,s3,s4,s5,s6,s7,s8,s9]) =
 (R0 [AV.agg (TRow.ints u64 [s8,s9]) 2,AV.int u64 v,AV.int u64 j]).bind λ (t:T0)=>G (some (bX 0 v xs 0 [f,g,h,i,j] 5 zs ys [s0,s1,s2,s3,s4,s5,s6,s7,aG t,aM t])):=by kernel_rfl
theorem aUy {β:Type} (fu:Nat) (G:FG β) (H:FH β) (a b c d e:Int) (zs ys ss:List Int):fI prog (cW T0 R0 aG aM T1 R1 aN bI T2 R2 bC bW dW eT eX) fu u9 G H (qQ [a,b,c,d,e] 0 zs ys ss) =
 eS prog (cW T0 R0 aG aM T1 R1 aN bI T2 R2 bC bW dW eT eX) fu dU (vA T0 R0 aG aM T1 R1 aN bI T2 R2 bC bW dW eT eX fu G H) fu (some (bX 0 a [a,b,c,d,e] 0 zs 0 zs ys ss)):=by kernel_rfl
theorem aUz {β:Type} (fu:Nat) (G:FG β) (H:FH β) (xs zs ys ss:List Int):vA T0 R0 aG aM T1 R1 aN bI T2 R2 bC bW dW eT eX fu G H (Ex.exit 2) (lT xs 0 zs ys ss) =
 G (some (qQ xs 1 zs ys ss)):=by kernel_rfl
theorem aK4 {β:Type} (fu:Nat) (G:FG β) (H:FH β) (v:Int) (xs ys zs ss x23:List Int):fI prog (cW T0 R0 aG aM T1 R1 aN bI T2 R2 bC bW dW eT eX) fu dU G H (bX 0 v xs 0 x23 5 zs ys ss) =
 H (Ex.exit 2) (some (lT xs 0 zs ys ss)):=by kernel_rfl
theorem aK5 {β:Type} (fu:Nat) (G:FG β) (H:FH β) (v:Int) (xs zs ys:List Int) (f g h i j s0 s1 s2 s3 s4 s5 s6 s7 s8 s9:Int):fI prog (cW T0 R0 aG aM T1 R1 aN bI T2 R2 bC bW dW eT eX) fu dU G H (bX 1 v xs 1 [f,g,h,i,j] 0 zs ys [s0,s1,s2,s3,s4,s5,s6,s7,s8,s9]) =
 (R0 [AV.agg (TRow.ints u64 [s2,s3]) 2,AV.int u64 v,AV.int u64 f]).bind λ (t:T0)=>G (some (bX 1 v xs 1 [f,g,h,i,j] 1 zs ys [s0,s1,aG t,aM t,s4,s5,s6,s7,s8,s9])):=by kernel_rfl
theorem aK6 {β:Type} (fu:Nat) (G:FG β) (H:FH β) (v:Int) (xs zs ys:List Int) (f g h i j s0 s1 s2 s3 s4 s5 s6 s7 s8 s9:Int):fI prog (cW T0 R0 aG aM T1 R1 aN bI T2 R2 bC bW dW eT eX) fu dU G H (bX 1 v xs 1 [f,g,h,i,j] 1 zs ys [s0,s1,s2,s3,s4,s5,s6,s7,s8,s9]) =
 (R0 [AV.agg (TRow.ints u64 [s4,s5]) 2,AV.int u64 v,AV.int u64 g]).bind λ (t:T0)=>G (some (bX 1 v xs 1 [f,g,h,i,j] 2 zs ys [s0,s1,s2,s3,aG t,aM t,s6,s7,s8,s9])):=by kernel_rfl
theorem aK7 {β:Type} (fu:Nat) (G:FG β) (H:FH β) (v:Int) (xs zs ys:List Int) (f g h i j s0 s1 s2 s3 s4 s5 s6 s7 s8 s9:Int):fI prog (cW T0 R0 aG aM T1 R1 aN bI T2 R2 bC bW dW eT eX) fu dU G H (bX 1 v xs 1 [f,g,h,i,j] 2 zs ys [s0,s1,s2,s3,s4,s5,s6,s7,s8,s9]) =
 (R0 [AV.agg (TRow.ints u64 [s6,s7]) 2,AV.int u64 v,AV.int u64 h]).bind λ (t:T0)=>G (some (bX 1 v xs 1 [f,g,h,i,j] 3 zs ys [s0,s1,s2,s3,s4,s5,aG t,aM t,s8,s9])):=by kernel_rfl
theorem aK8 {β:Type} (fu:Nat) (G:FG β) (H:FH β) (v:Int) (xs zs ys:List Int) (f g h i j s0 s1 s2 s3 s4 s5 s6 s7 s8 s9:Int):fI prog (cW T0 R0 aG aM T1 R1 aN bI T2 R2 bC bW dW eT eX) fu dU G H (bX 1 v xs 1 [f,g,h,i,j] 3 zs ys [s0,s1,s2,s3,s4,s5,s6,s7,s8,s9]) =
 (R0 [AV.agg (TRow.ints u64 [s8,s9]) 2,AV.int u64 v,AV.int u64 i]).bind λ (t:T0)=>G (some (bX 1 v xs 1 [f,g,h,i,j] 4 zs ys [s0,s1,s2,s3,s4,s5,s6,s7,aG t,aM t])):=by kernel_rfl
theorem aK9 {β:Type} (fu:Nat) (G:FG β) (H:FH β) (v:Int) (xs zs ys:List Int) (f g h i j s0 s1 s2 s3 s4 s5 s6 s7 s8 s9:Int):fI prog (cW T0 R0 aG aM T1 R1 aN bI T2 R2 bC bW dW eT eX) fu dU G H (bX 1 v xs 1 [f,g,h,i,j] 4 zs ys [s0,s1,s2,s3,s4,s5,s6,s7,s8,s9]) =
 (R0 [AV.agg (TRow.ints u64 [s0,s1]) 2,AV.int u64 v,AV.int u64 (u64.wrap (j*19))]).bind λ (t:T0)=>G (some (bX 1 v xs 1 [f,g,h,i,j] 5 zs ys [aG t,aM t,s2,s3,s4,s5,s6,s7,s8,s9])):=by kernel_rfl
theorem aUA {β:Type} (fu:Nat) (G:FG β) (H:FH β) (a b c d e:Int) (zs ys ss:List Int):fI prog (cW T0 R0 aG aM T1 R1 aN bI T2 R2 bC bW dW eT eX) fu u9 G H (qQ [a,b,c,d,e] 1 zs ys ss) =
 eS prog (cW T0 R0 aG aM T1 R1 aN bI T2 R2 bC bW dW eT eX) fu dU (vA T0 R0 aG aM T1 R1 aN bI T2 R2 bC bW dW eT eX fu G H) fu (some (bX 1 b [a,b,c,d,e] 1 zs 0 zs ys ss)):=by kernel_rfl
theorem aUB {β:Type} (fu:Nat) (G:FG β) (H:FH β) (xs zs ys ss:List Int):vA T0 R0 aG aM T1 R1 aN bI T2 R2 bC bW dW eT eX fu G H (Ex.exit 2) (lT xs 1 zs ys ss) =
 G (some (qQ xs 2 zs ys ss)):=by kernel_rfl
theorem aLa {β:Type} (fu:Nat) (G:FG β) (H:FH β) (v:Int) (xs ys zs ss x23:List Int):fI prog (cW T0 R0 aG aM T1 R1 aN bI T2 R2 bC bW dW eT eX) fu dU G H (bX 1 v xs 1 x23 5 zs ys ss) =
 H (Ex.exit 2) (some (lT xs 1 zs ys ss)):=by kernel_rfl
theorem aLb {β:Type} (fu:Nat) (G:FG β) (H:FH β) (v:Int) (xs zs ys:List Int) (f g h i j s0 s1 s2 s3 s4 s5 s6 s7 s8 s9:Int):fI prog (cW T0 R0 aG aM T1 R1 aN bI T2 R2 bC bW dW eT eX) fu dU G H (bX 2 v xs 2 [f,g,h,i,j] 0 zs ys [s0,s1,s2,s3,s4,s5,s6,s7,s8,s9]) =
 (R0 [AV.agg (TRow.ints u64 [s4,s5]) 2,AV.int u64 v,AV.int u64 f]).bind λ (t:T0)=>G (some (bX 2 v xs 2 [f,g,h,i,j] 1 zs ys [s0,s1,s2,s3,aG t,aM t,s6,s7,s8,s9])):=by kernel_rfl
theorem aLc {β:Type} (fu:Nat) (G:FG β) (H:FH β) (v:Int) (xs zs ys:List Int) (f g h i j s0 s1 s2 s3 s4 s5 s6 s7 s8 s9:Int):fI prog (cW T0 R0 aG aM T1 R1 aN bI T2 R2 bC bW dW eT eX) fu dU G H (bX 2 v xs 2 [f,g,h,i,j] 1 zs ys [s0,s1,s2,s3,s4,s5,s6,s7,s8,s9]) =
 (R0 [AV.agg (TRow.ints u64 [s6,s7]) 2,AV.int u64 v,AV.int u64 g]).bind λ (t:T0)=>G (some (bX 2 v xs 2 [f,g,h,i,j] 2 zs ys [s0,s1,s2,s3,s4,s5,aG t,aM t,s8,s9])):=by kernel_rfl
theorem aLd {β:Type} (fu:Nat) (G:FG β) (H:FH β) (v:Int) (xs zs ys:List Int) (f g h i j s0 s1 s2 s3 s4 s5 s6 s7 s8 s9:Int):fI prog (cW T0 R0 aG aM T1 R1 aN bI T2 R2 bC bW dW eT eX) fu dU G H (bX 2 v xs 2 [f,g,h,i,j] 2 zs ys [s0,s1,s2,s3,s4,s5,s6,s7,s8,s9]) =
 (R0 [AV.agg (TRow.ints u64 [s8,s9]) 2,AV.int u64 v,AV.int u64 h]).bind λ (t:T0)=>G (some (bX 2 v xs 2 [f,g,h,i,j] 3 zs ys [s0,s1,s2,s3,s4,s5,s6,s7,aG t,aM t])):=by kernel_rfl
theorem aLe {β:Type} (fu:Nat) (G:FG β) (H:FH β) (v:Int) (xs zs ys:List Int) (f g h i j s0 s1 s2 s3 s4 s5 s6 s7 s8 s9:Int):fI prog (cW T0 R0 aG aM T1 R1 aN bI T2 R2 bC bW dW eT eX) fu dU G H (bX 2 v xs 2 [f,g,h,i,j] 3 zs ys [s0,s1,s2,s3,s4,s5,s6,s7,s8,s9]) =
 (R0 [AV.agg (TRow.ints u64 [s0,s1]) 2,AV.int u64 v,AV.int u64 (u64.wrap (i*19))]).bind λ (t:T0)=>G (some (bX 2 v xs 2 [f,g,h,i,j] 4 zs ys [aG t,aM t,s2,s3,s4,s5,s6,s7,s8,s9])):=by kernel_rfl
theorem aLf {β:Type} (fu:Nat) (G:FG β) (H:FH β) (v:Int) (xs zs ys:List Int) (f g h i j s0 s1 s2 s3 s4 s5 s6 s7 s8 s9:Int):fI prog (cW T0 R0 aG aM T1 R1 aN bI T2 R2 bC bW dW eT eX) fu dU G H (bX 2 v xs 2 [f,g,h,i,j] 4 zs ys [s0,s1,s2,s3,s4,s5,s6,s7,s8,s9]) =
 (R0 [AV.agg (TRow.ints u64 [s2,s3]) 2,AV.int u64 v,AV.int u64 (u64.wrap (j*19))]).bind λ (t:T0)=>G (some (bX 2 v xs 2 [f,g,h,i,j] 5 zs ys [s0,s1,aG t,aM t,s4,s5,s6,s7,s8,s9])):=by kernel_rfl
theorem aUC {β:Type} (fu:Nat) (G:FG β) (H:FH β) (a b c d e:Int) (zs ys ss:List Int):fI prog (cW T0 R0 aG aM T1 R1 aN bI T2 R2 bC bW dW eT eX) fu u9 G H (qQ [a,b,c,d,e] 2 zs ys ss) =
 eS prog (cW T0 R0 aG aM T1 R1 aN bI T2 R2 bC bW dW eT eX) fu dU (vA T0 R0 aG aM T1 R1 aN bI T2 R2 bC bW dW eT eX fu G H) fu (some (bX 2 c [a,b,c,d,e] 2 zs 0 zs ys ss)):=by kernel_rfl
theorem aUD {β:Type} (fu:Nat) (G:FG β) (H:FH β) (xs zs ys ss:List Int):vA T0 R0 aG aM T1 R1 aN bI T2 R2 bC bW dW eT eX fu G H (Ex.exit 2) (lT xs 2 zs ys ss) =
 G (some (qQ xs 3 zs ys ss)):=by kernel_rfl
theorem aLg {β:Type} (fu:Nat) (G:FG β) (H:FH β) (v:Int) (xs ys zs ss x23:List Int):fI prog (cW T0 R0 aG aM T1 R1 aN bI T2 R2 bC bW dW eT eX) fu dU G H (bX 2 v xs 2 x23 5 zs ys ss) =
 H (Ex.exit 2) (some (lT xs 2 zs ys ss)):=by kernel_rfl
theorem aLh {β:Type} (fu:Nat) (G:FG β) (H:FH β) (v:Int) (xs zs ys:List Int) (f g h i j s0 s1 s2 s3 s4 s5 s6 s7 s8 s9:Int):fI prog (cW T0 R0 aG aM T1 R1 aN bI T2 R2 bC bW dW eT eX) fu dU G H (bX 3 v xs 3 [f,g,h,i,j] 0 zs ys [s0,s1,s2,s3,s4,s5,s6,s7,s8,s9]) =
 (R0 [AV.agg (TRow.ints u64 [s6,s7]) 2,AV.int u64 v,AV.int u64 f]).bind λ (t:T0)=>G (some (bX 3 v xs 3 [f,g,h,i,j] 1 zs ys [s0,s1,s2,s3,s4,s5,aG t,aM t,s8,s9])):=by kernel_rfl
theorem aLi {β:Type} (fu:Nat) (G:FG β) (H:FH β) (v:Int) (xs zs ys:List Int) (f g h i j s0 s1 s2 s3 s4 s5 s6 s7 s8 s9:Int):fI prog (cW T0 R0 aG aM T1 R1 aN bI T2 R2 bC bW dW eT eX) fu dU G H (bX 3 v xs 3 [f,g,h,i,j] 1 zs ys [s0,s1,s2,s3,s4,s5,s6,s7,s8,s9]) =
 (R0 [AV.agg (TRow.ints u64 [s8,s9]) 2,AV.int u64 v,AV.int u64 g]).bind λ (t:T0)=>G (some (bX 3 v xs 3 [f,g,h,i,j] 2 zs ys [s0,s1,s2,s3,s4,s5,s6,s7,aG t,aM t])):=by kernel_rfl
theorem aLj {β:Type} (fu:Nat) (G:FG β) (H:FH β) (v:Int) (xs zs ys:List Int) (f g h i j s0 s1 s2 s3 s4 s5 s6 s7 s8 s9:Int):fI prog (cW T0 R0 aG aM T1 R1 aN bI T2 R2 bC bW dW eT eX) fu dU G H (bX 3 v xs 3 [f,g,h,i,j] 2 zs ys [s0,s1,s2,s3,s4,s5,s6,s7,s8,s9]) =
 (R0 [AV.agg (TRow.ints u64 [s0,s1]) 2,AV.int u64 v,AV.int u64 (u64.wrap (h*19))]).bind λ (t:T0)=>G (some (bX 3 v xs 3 [f,g,h,i,j] 3 zs ys [aG t,aM t,s2,s3,s4,s5,s6,s7,s8,s9])):=by kernel_rfl
theorem aLk {β:Type} (fu:Nat) (G:FG β) (H:FH β) (v:Int) (xs zs ys:List Int) (f g h i j s0 s1 s2 s3 s4 s5 s6 s7 s8 s9:Int):fI prog (cW T0 R0 aG aM T1 R1 aN bI T2 R2 bC bW dW eT eX) fu dU G H (bX 3 v xs 3 [f,g,h,i,j] 3 zs ys [s0,s1,s2,s3,s4,s5,s6,s7,s8,s9]) =
 (R0 [AV.agg (TRow.ints u64 [s2,s3]) 2,AV.int u64 v,AV.int u64 (u64.wrap (i*19))]).bind λ (t:T0)=>G (some (bX 3 v xs 3 [f,g,h,i,j] 4 zs ys [s0,s1,aG t,aM t,s4,s5,s6,s7,s8,s9])):=by kernel_rfl
theorem aLl {β:Type} (fu:Nat) (G:FG β) (H:FH β) (v:Int) (xs zs ys:List Int) (f g h i j s0 s1 s2 s3 s4 s5 s6 s7 s8 s9:Int):fI prog (cW T0 R0 aG aM T1 R1 aN bI T2 R2 bC bW dW eT eX) fu dU G H (bX 3 v xs 3 [f,g,h,i,j] 4 zs ys [s0,s1,s2,s3,s4,s5,s6,s7,s8,s9]) =
 (R0 [AV.agg (TRow.ints u64 [s4,s5]) 2,AV.int u64 v,AV.int u64 (u64.wrap (j*19))]).bind λ (t:T0)=>G (some (bX 3 v xs 3 [f,g,h,i,j] 5 zs ys [s0,s1,s2,s3,aG t,aM t,s6,s7,s8,s9])):=by kernel_rfl
theorem aUE {β:Type} (fu:Nat) (G:FG β) (H:FH β) (a b c d e:Int) (zs ys ss:List Int):fI prog (cW T0 R0 aG aM T1 R1 aN bI T2 R2 bC bW dW eT eX) fu u9 G H (qQ [a,b,c,d,e] 3 zs ys ss) =
 eS prog (cW T0 R0 aG aM T1 R1 aN bI T2 R2 bC bW dW eT eX) fu dU (vA T0 R0 aG aM T1 R1 aN bI T2 R2 bC bW dW eT eX fu G H) fu (some (bX 3 d [a,b,c,d,e] 3 zs 0 zs ys ss)):=by kernel_rfl
theorem aUF {β:Type} (fu:Nat) (G:FG β) (H:FH β) (xs zs ys ss:List Int):vA T0 R0 aG aM T1 R1 aN bI T2 R2 bC bW dW eT eX fu G H (Ex.exit 2) (lT xs 3 zs ys ss) =
 G (some (qQ xs 4 zs ys ss)):=by kernel_rfl
theorem aLm {β:Type} (fu:Nat) (G:FG β) (H:FH β) (v:Int) (xs ys zs ss x23:List Int):fI prog (cW T0 R0 aG aM T1 R1 aN bI T2 R2 bC bW dW eT eX) fu dU G H (bX 3 v xs 3 x23 5 zs ys ss) =
 H (Ex.exit 2) (some (lT xs 3 zs ys ss)):=by kernel_rfl
theorem aLn {β:Type} (fu:Nat) (G:FG β) (H:FH β) (v:Int) (xs zs ys:List Int) (f g h i j s0 s1 s2 s3 s4 s5 s6 s7 s8 s9:Int):fI prog (cW T0 R0 aG aM T1 R1 aN bI T2 R2 bC bW dW eT eX) fu dU G H (bX 4 v xs 4 [f,g,h,i,j] 0 zs ys [s0,s1,s2,s3,s4,s5,s6,s7,s8,s9]) =
 (R0 [AV.agg (TRow.ints u64 [s8,s9]) 2,AV.int u64 v,AV.int u64 f]).bind λ (t:T0)=>G (some (bX 4 v xs 4 [f,g,h,i,j] 1 zs ys [s0,s1,s2,s3,s4,s5,s6,s7,aG t,aM t])):=by kernel_rfl
theorem aLo {β:Type} (fu:Nat) (G:FG β) (H:FH β) (v:Int) (xs zs ys:List Int) (f g h i j s0 s1 s2 s3 s4 s5 s6 s7 s8 s9:Int):fI prog (cW T0 R0 aG aM T1 R1 aN bI T2 R2 bC bW dW eT eX) fu dU G H (bX 4 v xs 4 [f,g,h,i,j] 1 zs ys [s0,s1,s2,s3,s4,s5,s6,s7,s8,s9]) =
 (R0 [AV.agg (TRow.ints u64 [s0,s1]) 2,AV.int u64 v,AV.int u64 (u64.wrap (g*19))]).bind λ (t:T0)=>G (some (bX 4 v xs 4 [f,g,h,i,j] 2 zs ys [aG t,aM t,s2,s3,s4,s5,s6,s7,s8,s9])):=by kernel_rfl
theorem aLp {β:Type} (fu:Nat) (G:FG β) (H:FH β) (v:Int) (xs zs ys:List Int) (f g h i j s0 s1 s2 s3 s4 s5 s6 s7 s8 s9:Int):fI prog (cW T0 R0 aG aM T1 R1 aN bI T2 R2 bC bW dW eT eX) fu dU G H (bX 4 v xs 4 [f,g,h,i,j] 2 zs ys [s0,s1,s2,s3,s4,s5,s6,s7,s8,s9]) =
 (R0 [AV.agg (TRow.ints u64 [s2,s3]) 2,AV.int u64 v,AV.int u64 (u64.wrap (h*19))]).bind λ (t:T0)=>G (some (bX 4 v xs 4 [f,g,h,i,j] 3 zs ys [s0,s1,aG t,aM t,s4,s5,s6,s7,s8,s9])):=by kernel_rfl
theorem aLq {β:Type} (fu:Nat) (G:FG β) (H:FH β) (v:Int) (xs zs ys:List Int) (f g h i j s0 s1 s2 s3 s4 s5 s6 s7 s8 s9:Int):fI prog (cW T0 R0 aG aM T1 R1 aN bI T2 R2 bC bW dW eT eX) fu dU G H (bX 4 v xs 4 [f,g,h,i,j] 3 zs ys [s0,s1,s2,s3,s4,s5,s6,s7,s8,s9]) =
 (R0 [AV.agg (TRow.ints u64 [s4,s5]) 2,AV.int u64 v,AV.int u64 (u64.wrap (i*19))]).bind λ (t:T0)=>G (some (bX 4 v xs 4 [f,g,h,i,j] 4 zs ys [s0,s1,s2,s3,aG t,aM t,s6,s7,s8,s9])):=by kernel_rfl
theorem aLr {β:Type} (fu:Nat) (G:FG β) (H:FH β) (v:Int) (xs zs ys:List Int) (f g h i j s0 s1 s2 s3 s4 s5 s6 s7 s8 s9:Int):fI prog (cW T0 R0 aG aM T1 R1 aN bI T2 R2 bC bW dW eT eX) fu dU G H (bX 4 v xs 4 [f,g,h,i,j] 4 zs ys [s0,s1,s2,s3,s4,s5,s6,s7,s8,s9]) =
 (R0 [AV.agg (TRow.ints u64 [s6,s7]) 2,AV.int u64 v,AV.int u64 (u64.wrap (j*19))]).bind λ (t:T0)=>G (some (bX 4 v xs 4 [f,g,h,i,j] 5 zs ys [s0,s1,s2,s3,s4,s5,aG t,aM t,s8,s9])):=by kernel_rfl
theorem aUG {β:Type} (fu:Nat) (G:FG β) (H:FH β) (a b c d e:Int) (zs ys ss:List Int):fI prog (cW T0 R0 aG aM T1 R1 aN bI T2 R2 bC bW dW eT eX) fu u9 G H (qQ [a,b,c,d,e] 4 zs ys ss) =
 eS prog (cW T0 R0 aG aM T1 R1 aN bI T2 R2 bC bW dW eT eX) fu dU (vA T0 R0 aG aM T1 R1 aN bI T2 R2 bC bW dW eT eX fu G H) fu (some (bX 4 e [a,b,c,d,e] 4 zs 0 zs ys ss)):=by kernel_rfl
theorem aUH {β:Type} (fu:Nat) (G:FG β) (H:FH β) (xs zs ys ss:List Int):vA T0 R0 aG aM T1 R1 aN bI T2 R2 bC bW dW eT eX fu G H (Ex.exit 2) (lT xs 4 zs ys ss) =
 G (some (qQ xs 5 zs ys ss)):=by kernel_rfl
theorem aLs {β:Type} (fu:Nat) (G:FG β) (H:FH β) (v:Int) (xs ys zs ss x23:List Int):fI prog (cW T0 R0 aG aM T1 R1 aN bI T2 R2 bC bW dW eT eX) fu dU G H (bX 4 v xs 4 x23 5 zs ys ss) =
 H (Ex.exit 2) (some (lT xs 4 zs ys ss)):=by kernel_rfl
theorem aUI {β:Type} (fu:Nat) (G:FG β) (H:FH β) (xs zs ys ss:List Int):fI prog (cW T0 R0 aG aM T1 R1 aN bI T2 R2 bC bW dW eT eX) fu u9 G H (qQ xs 5 zs ys ss) =
 H (Ex.exit 0) (some (RC ys ss)):=by kernel_rfl
theorem aYy (fu:Nat) (ys:List Int) (s0 s1 s2 s3 s4 s5 s6 s7 s8 s9:Int):aFg T0 R0 aG aM T1 R1 aN bI T2 R2 bC bW dW eT eX fu (Ex.exit 0) (RC ys [s0,s1,s2,s3,s4,s5,s6,s7,s8,s9]) =
 (R1 [AV.agg (TRow.ints u64 [s0,s1]) 2]).bind λ (t:T1)=>
  (R1 [AV.agg (TRow.ints u64 [s2,s3]) 2]).bind λ (dH:T1)=>
   (R1 [AV.agg (TRow.ints u64 [s4,s5]) 2]).bind λ (eU:T1)=>
    (R1 [AV.agg (TRow.ints u64 [s6,s7]) 2]).bind λ (gE:T1)=>
     (R1 [AV.agg (TRow.ints u64 [s8,s9]) 2]).bind λ (gT:T1)=>
      eS prog (cW T0 R0 aG aM T1 R1 aN bI T2 R2 bC bW dW eT eX) fu Cd (aFh T0 R0 aG aM T1 R1 aN bI T2 R2 bC bW dW eT eX fu) fu (some (qR [bI t,bI dH,bI eU,bI gE,bI gT] 0 ys [aN t,aN dH,aN eU,aN gE,aN gT])):=by kernel_rfl
theorem aUJ {β:Type} (fu:Nat) (G:FG β) (H:FH β) (xs:List Int) (u0 u1 u2 u3 u4 o0 o1 o2 o3 o4:Int):fI prog (cW T0 R0 aG aM T1 R1 aN bI T2 R2 bC bW dW eT eX) fu Cd G H (qR [u0,u1,u2,u3,u4] 0 xs [o0,o1,o2,o3,o4]) =
 G (some (qR [u0,u1,u2,u3,u4] 1 xs [o0,u64.wrap (o1+u0),o2,o3,o4])):=by kernel_rfl
theorem aUK {β:Type} (fu:Nat) (G:FG β) (H:FH β) (xs:List Int) (u0 u1 u2 u3 u4 o0 o1 o2 o3 o4:Int):fI prog (cW T0 R0 aG aM T1 R1 aN bI T2 R2 bC bW dW eT eX) fu Cd G H (qR [u0,u1,u2,u3,u4] 1 xs [o0,o1,o2,o3,o4]) =
 G (some (qR [u0,u1,u2,u3,u4] 2 xs [o0,o1,u64.wrap (o2+u1),o3,o4])):=by kernel_rfl
theorem aUL {β:Type} (fu:Nat) (G:FG β) (H:FH β) (xs:List Int) (u0 u1 u2 u3 u4 o0 o1 o2 o3 o4:Int):fI prog (cW T0 R0 aG aM T1 R1 aN bI T2 R2 bC bW dW eT eX) fu Cd G H (qR [u0,u1,u2,u3,u4] 2 xs [o0,o1,o2,o3,o4]) =
 G (some (qR [u0,u1,u2,u3,u4] 3 xs [o0,o1,o2,u64.wrap (o3+u2),o4])):=by kernel_rfl
theorem aUM {β:Type} (fu:Nat) (G:FG β) (H:FH β) (xs:List Int) (u0 u1 u2 u3 u4 o0 o1 o2 o3 o4:Int):fI prog (cW T0 R0 aG aM T1 R1 aN bI T2 R2 bC bW dW eT eX) fu Cd G H (qR [u0,u1,u2,u3,u4] 3 xs [o0,o1,o2,o3,o4]) =
 G (some (qR [u0,u1,u2,u3,u4] 4 xs [o0,o1,o2,o3,u64.wrap (o4+u3)])):=by kernel_rfl
theorem aUN {β:Type} (fu:Nat) (G:FG β) (H:FH β) (xs:List Int) (u0 u1 u2 u3 u4 o0 o1 o2 o3 o4:Int):fI prog (cW T0 R0 aG aM T1 R1 aN bI T2 R2 bC bW dW eT eX) fu Cd G H (qR [u0,u1,u2,u3,u4] 4 xs [o0,o1,o2,o3,o4]) =
 G (some (qR [u0,u1,u2,u3,u4] 5 xs [u64.wrap (o0+u64.wrap (u4*19)),o1,o2,o3,o4])):=by kernel_rfl
theorem aUO {β:Type} (fu:Nat) (G:FG β) (H:FH β) (xs us os:List Int):fI prog (cW T0 R0 aG aM T1 R1 aN bI T2 R2 bC bW dW eT eX) fu Cd G H (qR us 5 xs os) =
 H (Ex.exit 6) (some (RD xs os)):=by kernel_rfl
end
section
variable (T0:Type) (R0:FA T0) (aG aM cB cE cR:T0->Int)
theorem aUP {β:Type} (fu:Nat) (G:FG β) (H:FH β) (v o0 o1 o2 o3 o4:Int) (ys:List Int):fI prog (rM T0 R0 aG aM cB cE cR) fu Cc G H (u6 v 1 [o0,o1,o2,o3,o4] ys) =
 G (some (u6 (eK u64 (u64.wrap (o1+v)) 51) 2 [o0,o1,o2,o3,o4] ys)):=by kernel_rfl
theorem aUQ {β:Type} (fu:Nat) (G:FG β) (H:FH β) (v o0 o1 o2 o3 o4:Int) (ys:List Int):fI prog (rM T0 R0 aG aM cB cE cR) fu Cc G H (u6 v 2 [o0,o1,o2,o3,o4] ys) =
 G (some (u6 (eK u64 (u64.wrap (o2+v)) 51) 3 [o0,o1,o2,o3,o4] ys)):=by kernel_rfl
theorem aUR {β:Type} (fu:Nat) (G:FG β) (H:FH β) (v o0 o1 o2 o3 o4:Int) (ys:List Int):fI prog (rM T0 R0 aG aM cB cE cR) fu Cc G H (u6 v 3 [o0,o1,o2,o3,o4] ys) =
 G (some (u6 (eK u64 (u64.wrap (o3+v)) 51) 4 [o0,o1,o2,o3,o4] ys)):=by kernel_rfl
theorem aUS {β:Type} (fu:Nat) (G:FG β) (H:FH β) (v o0 o1 o2 o3 o4:Int) (ys:List Int):fI prog (rM T0 R0 aG aM cB cE cR) fu Cc G H (u6 v 4 [o0,o1,o2,o3,o4] ys) =
 G (some (u6 (eK u64 (u64.wrap (o4+v)) 51) 5 [o0,o1,o2,o3,o4] ys)):=by kernel_rfl
theorem aUT {β:Type} (fu:Nat) (G:FG β) (H:FH β) (v:Int) (xs ys:List Int):fI prog (rM T0 R0 aG aM cB cE cR) fu Cc G H (u6 v 5 xs ys) =
 H (Ex.exit 0) (some (Q9 v xs ys)):=by kernel_rfl
theorem aUU {β:Type} (fu:Nat) (G:FG β) (H:FH β) (o0 o1 o2 o3 o4:Int) (ys:List Int):fI prog (rM T0 R0 aG aM cB cE cR) fu E9 G H (u7 0 [o0,o1,o2,o3,o4] ys) =
 G (some (u7 1 [d8 u64 o0 2251799813685247,u64.wrap (o1+eK u64 o0 51),o2,o3,o4] ys)):=by kernel_rfl
theorem aUV {β:Type} (fu:Nat) (G:FG β) (H:FH β) (o0 o1 o2 o3 o4:Int) (ys:List Int):fI prog (rM T0 R0 aG aM cB cE cR) fu E9 G H (u7 1 [o0,o1,o2,o3,o4] ys) =
 G (some (u7 2 [o0,d8 u64 o1 2251799813685247,u64.wrap (o2+eK u64 o1 51),o3,o4] ys)):=by kernel_rfl
theorem aUW {β:Type} (fu:Nat) (G:FG β) (H:FH β) (o0 o1 o2 o3 o4:Int) (ys:List Int):fI prog (rM T0 R0 aG aM cB cE cR) fu E9 G H (u7 2 [o0,o1,o2,o3,o4] ys) =
 G (some (u7 3 [o0,o1,d8 u64 o2 2251799813685247,u64.wrap (o3+eK u64 o2 51),o4] ys)):=by kernel_rfl
theorem aUX {β:Type} (fu:Nat) (G:FG β) (H:FH β) (o0 o1 o2 o3 o4:Int) (ys:List Int):fI prog (rM T0 R0 aG aM cB cE cR) fu E9 G H (u7 3 [o0,o1,o2,o3,o4] ys) =
 G (some (u7 4 [o0,o1,o2,d8 u64 o3 2251799813685247,u64.wrap (o4+eK u64 o3 51)] ys)):=by kernel_rfl
theorem aYz (fu:Nat) (v o0 o1 o2 o3 o4:Int) (ys:List Int):aFe T0 R0 aG aM cB cE cR fu (Ex.exit 0) (Q9 v [o0,o1,o2,o3,o4] ys) =
 eS prog (rM T0 R0 aG aM cB cE cR) fu E9 (aFf T0 R0 aG aM cB cE cR fu) fu (some (u7 0 [u64.wrap (o0+u64.wrap (19*v)),o1,o2,o3,o4] ys)):=by kernel_rfl
theorem aYA (fu:Nat) (o0 o1 o2 o3 o4:Int) (ys:List Int):aFf T0 R0 aG aM cB cE cR fu (Ex.exit 2) (RA [o0,o1,o2,o3,o4] ys) =
 some (AV.agg (TRow.ints u64 [o0,o1,o2,o3,d8 u64 o4 2251799813685247]) 5):=by kernel_rfl
theorem aUY {β:Type} (fu:Nat) (G:FG β) (H:FH β) (xs ys:List Int):fI prog (rM T0 R0 aG aM cB cE cR) fu E9 G H (u7 4 xs ys) =
 H (Ex.exit 2) (some (RA xs ys)):=by kernel_rfl
end
section
variable (T0:Type) (R0:FA T0) (aG:T0->List Int) (T1:Type) (R1:FA T1) (aN:T1->List Int) (T2:Type) (R2:FA T2) (bC:T2->List Int) (bW:T2->Bool) (T3:Type) (R3:FA T3) (bO cI:T3->List Int) (qG:T3->Int)
theorem aUZ {β:Type} (fu:Nat) (G:FG β) (H:FH β) (xs ys:List Int) (o0 o1 o2 o3 o4:Int):fI prog (CH T0 R0 aG T1 R1 aN T2 R2 bC bW T3 R3 bO cI qG) fu AH G H (qS 0 xs ys [o0,o1,o2,o3,o4]) =
 (R1 [AV.agg (TRow.ints u64 xs) 8,AV.int i64 (0)]).bind λ (t:T1)=>G (some (qS 1 xs ys [d8 u64 ((aN t).getD 0 0) 2251799813685247,o1,o2,o3,o4])):=by kernel_rfl
theorem aU0 {β:Type} (fu:Nat) (G:FG β) (H:FH β) (xs ys:List Int) (o0 o1 o2 o3 o4:Int):fI prog (CH T0 R0 aG T1 R1 aN T2 R2 bC bW T3 R3 bO cI qG) fu AH G H (qS 1 xs ys [o0,o1,o2,o3,o4]) =
 (R1 [AV.agg (TRow.ints u64 xs) 8,AV.int i64 (-51)]).bind λ (t:T1)=>G (some (qS 2 xs ys [o0,d8 u64 ((aN t).getD 0 0) 2251799813685247,o2,o3,o4])):=by kernel_rfl
theorem aU1 {β:Type} (fu:Nat) (G:FG β) (H:FH β) (xs ys:List Int) (o0 o1 o2 o3 o4:Int):fI prog (CH T0 R0 aG T1 R1 aN T2 R2 bC bW T3 R3 bO cI qG) fu AH G H (qS 2 xs ys [o0,o1,o2,o3,o4]) =
 (R1 [AV.agg (TRow.ints u64 xs) 8,AV.int i64 (-102)]).bind λ (t:T1)=>G (some (qS 3 xs ys [o0,o1,d8 u64 ((aN t).getD 0 0) 2251799813685247,o3,o4])):=by kernel_rfl
theorem aU2 {β:Type} (fu:Nat) (G:FG β) (H:FH β) (xs ys:List Int) (o0 o1 o2 o3 o4:Int):fI prog (CH T0 R0 aG T1 R1 aN T2 R2 bC bW T3 R3 bO cI qG) fu AH G H (qS 3 xs ys [o0,o1,o2,o3,o4]) =
 (R1 [AV.agg (TRow.ints u64 xs) 8,AV.int i64 (-153)]).bind λ (t:T1)=>G (some (qS 4 xs ys [o0,o1,o2,d8 u64 ((aN t).getD 0 0) 2251799813685247,o4])):=by kernel_rfl
theorem aU3 {β:Type} (fu:Nat) (G:FG β) (H:FH β) (xs ys:List Int) (o0 o1 o2 o3 o4:Int):fI prog (CH T0 R0 aG T1 R1 aN T2 R2 bC bW T3 R3 bO cI qG) fu AH G H (qS 4 xs ys [o0,o1,o2,o3,o4]) =
 (R1 [AV.agg (TRow.ints u64 xs) 8,AV.int i64 (-204)]).bind λ (t:T1)=>G (some (qS 5 xs ys [o0,o1,o2,o3,d8 u64 ((aN t).getD 0 0) 2251799813685247])):=by kernel_rfl
theorem aU4 {β:Type} (fu:Nat) (G:FG β) (H:FH β) (xs ys zs:List Int):fI prog (CH T0 R0 aG T1 R1 aN T2 R2 bC bW T3 R3 bO cI qG) fu AH G H (qS 5 xs ys zs) =
 H (Ex.exit 0) (some (RI ys zs)):=by kernel_rfl
end
set_option maxRecDepth 4000
theorem aFr {T:Type} {F:Fe->T} {args:List AV} {t:T} (h:XD F args=some t):∃ x,args=[eF x] /\ f64 x /\ t=F x:=by
 unfold XD at h;split at h
 ·rename_i a b c d e;obtain ⟨h1,h2⟩:=cC h;simp only [inG,hO,aX,bG] at h1;obtain ⟨⟨⟨⟨⟨a0,a1⟩,b0,b1⟩,c0,c1⟩,d0,d1⟩,e0,e1⟩:=h1;obtain ⟨a,rfl⟩:=b9 a0;obtain ⟨b,rfl⟩:=b9 b0;obtain ⟨c,rfl⟩:=b9 c0;obtain ⟨d,rfl⟩:=b9 d0;obtain ⟨e,rfl⟩:=b9 e0;exact ⟨⟨a,b,c,d,e⟩,rfl,⟨by simp only; omega,by simp only; omega,by simp only; omega,by simp only; omega,by simp only; omega⟩,h2.symm⟩
 ·cases h
theorem eI {a b c d e:Int} (h:wZ a b c d e=true):∃ x:Fe,a=x.a /\ b=x.b /\ c=x.c /\ d=x.d /\ e=x.e /\ cN x /\ xS a b c d e=x:=by
 simp only [wZ,bG] at h;obtain ⟨a0,a1,b0,b1,c0,c1,d0,d1,e0,e1⟩:=h;obtain ⟨a,rfl⟩:=b9 a0;obtain ⟨b,rfl⟩:=b9 b0;obtain ⟨c,rfl⟩:=b9 c0;obtain ⟨d,rfl⟩:=b9 d0;obtain ⟨e,rfl⟩:=b9 e0;exact ⟨⟨a,b,c,d,e⟩,rfl,rfl,rfl,rfl,rfl,⟨by simp only; omega,by simp only; omega,by simp only; omega,by simp only; omega,by simp only; omega⟩,rfl⟩
theorem qB {T:Type} {F:Fe->T} {args:List AV} {t:T} (h:AG F args=some t):∃ x,args=[eF x] /\ cN x /\ t=F x:=by
 unfold AG at h;split at h
 ·obtain ⟨h1,h2⟩:=cC h;obtain ⟨x,rfl,rfl,rfl,rfl,rfl,hx,ex⟩:=eI h1;exact ⟨x,rfl,hx,by rw [<-h2,ex]⟩
 ·cases h
theorem wL {T:Type} {F:Fe->Fe->T} {args:List AV} {t:T} (h:Dn F args=some t):∃ x y,args=[eF x,eF y] /\ cN x /\ cN y /\ t=F x y:=by
 unfold Dn at h;split at h
 ·obtain ⟨h1,h2⟩:=cC h;rw [aX] at h1;obtain ⟨x,rfl,rfl,rfl,rfl,rfl,hx,ex⟩:=eI h1.1;obtain ⟨y,rfl,rfl,rfl,rfl,rfl,hy,ey⟩:=eI h1.2;exact ⟨x,y,rfl,hx,hy,by rw [<-h2,ex,ey]⟩
 ·cases h
theorem eJ {x:Fe} (h:cN x):wZ x.a x.b x.c x.d x.e=true:=by
 obtain ⟨h1,h2,h3,h4,h5⟩:=h;simp only [wZ,bG];omega
theorem AJ {T:Type} (F:Fe->T) {x:Fe} (h:cN x):AG F [eF x]=some (F x):=by
 show cond (wZ x.a x.b x.c x.d x.e) (some (F (xS x.a x.b x.c x.d x.e))) none=_;rw [eJ h]; rfl
theorem FD {T:Type} (F:Fe->Fe->T) {x y:Fe} (h:cN x) (h2:cN y):Dn F [eF x,eF y]=some (F x y):=by
 show cond (wZ x.a x.b x.c x.d x.e && wZ y.a y.b y.c y.d y.e) (some (F (xS x.a x.b x.c x.d x.e) (xS y.a y.b y.c y.d y.e))) none=_;rw [eJ h,eJ h2]; rfl
theorem y9 {n:Nat} (h:n < 18446744073709551616):hO (n:Int)=true:=aE (by omega)
theorem aU5 {T:Type} (F:Fe->T) {x:Fe} (h:f64 x):XD F [eF x]=some (F x):=by
 obtain ⟨h1,h2,h3,h4,h5⟩:=h;show cond (inG x.a x.b x.c x.d x.e) (some (F (xS x.a x.b x.c x.d x.e))) none=_;rw [inG,y9 h1,y9 h2,y9 h3,y9 h4,y9 h5]; rfl
theorem msk (x:Nat) (h:x < 18446744073709551616):d8 .u64 (x:Int) 2251799813685247=((x%2251799813685248:Nat):Int):=by
 rw [show (2251799813685247:Int)=((2251799813685247:Nat):Int) from rfl,Dd x _ h (by omega),show (2251799813685247:Nat)=2 ^ 51 - 1 from rfl,PR]
theorem Bi (x:Nat):eK .u64 (x:Int) 51=((x / 2251799813685248:Nat):Int):=mV x 51 (by omega)
theorem XN {x:Nat} (h:x < 18446744073709551616):u64.wrap (x:Int)=x:=Tp (by omega) (by omega)
theorem qT {u v:Nat} (h:u+v < 18446744073709551616):u64.wrap ((u:Int)+(v:Int))=((u+v:Nat):Int):=by
 rw [<-fZ]; exact XN h
theorem w19 {u:Nat} (h:u*19 < 18446744073709551616):u64.wrap ((u:Int)*19)=((u*19:Nat):Int):=by
 rw [show (19:Int)=((19:Nat):Int) from rfl,<-oA]; exact XN h
abbrev aU6:Cg:=aO8 (Int × Int) aEY (λ t=>t.fst) (λ t=>t.snd) (Int × Int) aEZ (λ t=>t.fst) (λ t=>t.snd)
theorem aLt:CfOk prog aU6.c:=gk <| aA Qx <| aA Ix <| aK
theorem aLu:CallOk prog 126 XE:=by
 refine i7 aLt Tryz.func126 ?_;intro args t ht;unfold XE at ht;simp only at ht;split at ht
 ·rename_i h l x y;obtain ⟨h1,h2⟩:=cC ht;simp only [aX,hO,bG] at h1;obtain ⟨⟨⟨⟨⟨a0,a1⟩,b0,b1⟩,c0,c1⟩,d0,d1⟩,e1⟩:=h1;have e1:=dL.mp e1;obtain ⟨h,rfl⟩:=b9 a0;obtain ⟨l,rfl⟩:=b9 b0;obtain ⟨x,rfl⟩:=b9 c0;obtain ⟨y,rfl⟩:=b9 d0;simp only [bE] at h2 e1;subst h2;refine (aT6 ..).trans ?_;rw [show aEY [.int .u64 (x:Int),.int .u64 (y:Int)]=_ from E7 x y (by omega) (by omega),aC,show aEZ [.int .u64 (l:Int),.int .u64 ((x*y%18446744073709551616:Nat):Int),.int .u64 0]=_ from GH l (x*y%18446744073709551616) (by omega) (bK _ (by decide)),aC];generalize hP:x*y=p at *;have hw:u64.wrap (u64.wrap ((h:Int)+((p / 18446744073709551616:Nat):Int))+(((l+p%18446744073709551616) / 18446744073709551616:Nat):Int))=(((18446744073709551616*h+l+p) / 18446744073709551616:Nat):Int):=by
   rw [Tp (n:=(h:Int)+((p / 18446744073709551616:Nat):Int)) (by omega) (by omega),Tp (by omega) (by omega)];omega
  have hl:(((l+p%18446744073709551616)%18446744073709551616:Nat):Int)=(((18446744073709551616*h+l+p)%18446744073709551616:Nat):Int):=by omega
  show some (AV.agg (TRow.ints u64 [u64.wrap (u64.wrap ((h:Int)+((p / 18446744073709551616:Nat):Int))+(((l+p%18446744073709551616) / 18446744073709551616:Nat):Int)),(((l+p%18446744073709551616)%18446744073709551616:Nat):Int)]) 2)=some (AV.agg (TRow.ints u64 [_,_]) 2);rw [hw,hl]
 ·cases ht
theorem dD {s x y:Nat} (hs:s < 1329227995784915872903807060280344576) (hx:x < 18446744073709551616) (hy:y < 18446744073709551616) (h:x*y < 1329227995784915872903807060280344576) :
  aE0 [.agg (.ints .u64 [((s / 18446744073709551616:Nat):Int),((s%18446744073709551616:Nat):Int)]) 2,.int .u64 (x:Int),.int .u64 (y:Int)]=some (s+x*y):=by
 have e:18446744073709551616*(s / 18446744073709551616)+s%18446744073709551616=s:=eO ..;simp only [aE0,XE,bE];rw [y9 (by omega),y9 (by omega),y9 hx,y9 hy,e,dL.mpr (by omega)]; rfl
abbrev aU7:Cg:=aO9 
theorem aLv:CfOk prog aU7.c:=gk <| aK
theorem aLw:CallOk prog 127 XF:=by
 refine i7 aLv Tryz.func127 ?_;intro args t ht;unfold XF at ht;simp only at ht;split at ht
 ·rename_i h l;obtain ⟨h1,h2⟩:=cC ht;simp only [aX,hO,bG] at h1;obtain ⟨⟨⟨a0,a1⟩,b0,b1⟩,e1⟩:=h1;obtain ⟨h,rfl⟩:=b9 a0;obtain ⟨l,rfl⟩:=b9 b0;simp only [bE] at h2 e1;subst h2;refine (aT7 ..).trans ?_;have hs:j9 .u64 (h:Int) 13=((h*8192:Nat):Int):=by
   have:=Dc h 13 (by omega);rw [show ((13:Nat):Int)=13 from rfl] at this;rw [this,show (2:Nat) ^ 13=8192 from rfl,aV (by omega)]
  have ho:h*8192 ||| l / 2251799813685248=h*8192+l / 2251799813685248:=by
   have:=yV (i:=13) (b:=l / 2251799813685248) (by omega) h;rw [show 2 ^ 13*h=h*8192 by omega] at this;exact this.symm
  rw [msk l (by omega),Bi,hs,NZ _ _ (by omega) (by omega),ho];have e2:l%2251799813685248=(18446744073709551616*h+l)%2251799813685248:=by omega
  have e3:h*8192+l / 2251799813685248=(18446744073709551616*h+l) / 2251799813685248:=by omega
  rw [e2,e3]; rfl
 ·cases ht
theorem AK {s:Nat} (h:s < 41538374868278621028243970633760768):aE1 [.agg (.ints .u64 [((s / 18446744073709551616:Nat):Int),((s%18446744073709551616:Nat):Int)]) 2]=some (s%2251799813685248,s / 2251799813685248):=by
 have e:18446744073709551616*(s / 18446744073709551616)+s%18446744073709551616=s:=eO ..;simp only [aE1,XF,bE];rw [y9 (by omega),y9 (by omega),e,aE (by omega)]; rfl
abbrev aU8:Cg:=aPa 
theorem aLx:CfOk prog aU8.c:=gk <| aK
theorem Ce:CallOk prog 79 aE2:=by
 refine i7 aLx Tryz.func79 ?_;intro args t ht;unfold aE2 at ht;simp only at ht;split at ht
 ·rename_i n;obtain ⟨h1,h2⟩:=cC ht;simp only [hO,bG] at h1;obtain ⟨n,rfl⟩:=b9 h1.1;subst h2;refine (aT8 ..).trans ?_;rw [msk n (by omega),Bi];have e:fe n=⟨n%2251799813685248,n / 2251799813685248,0,0,0⟩:=by
   simp only [fe,Fe.mk.injEq];refine ⟨trivial,?_,?_,?_,?_⟩ <;> omega
  show _=some (eF (fe n));rw [e]; rfl
 ·cases ht
theorem xT {n:Nat} (h:n < 18446744073709551616):Nx [.int .u64 (n:Int)]=some (fe n):=by
 simp only [Nx,aE2,bE];rw [y9 h]; rfl
abbrev aU9:Cg:=aPb 
theorem aLy:CfOk prog aU9.c:=gk <| aK
theorem N5:CallOk prog 125 aT0:=by
 refine i7 aLy Tryz.func125 ?_;intro args t ht;obtain ⟨x,rfl,hx,rfl⟩:=aFr (F:=oL) ht;obtain ⟨h1,h2,h3,h4,h5⟩:=hx;refine (aT9 ..).trans ?_;rw [msk _ h1,msk _ h2,msk _ h3,msk _ h4,msk _ h5,Bi,Bi,Bi,Bi,Bi,w19 (by omega),qT (by omega),qT (by omega),qT (by omega),qT (by omega),qT (by omega)];rfl
theorem Dr {x:Fe} (h:f64 x):Z9 [eF x]=some (oL x):=by
 simp only [Z9,aT0];exact aU5 oL h
abbrev aVa:Cg:=aPc (Fe) Z9 (λ t=>↑t.a) (λ t=>↑t.b) (λ t=>↑t.c) (λ t=>↑t.d) (λ t=>↑t.e)
theorem aLz:CfOk prog aVa.c:=gk <| aA N5 <| aK
theorem uI:CallOk prog 75 XG:=by
 refine i7 aLz Tryz.func75 ?_;intro args t ht;obtain ⟨x,y,rfl,hx,hy,rfl⟩:=wL (F:=gC) ht;obtain ⟨h1,h2,h3,h4,h5⟩:=hx;obtain ⟨g1,g2,g3,g4,g5⟩:=hy;refine (aUc ..).trans ?_;have hc:=Dr (x:=⟨x.a+y.a,x.b+y.b,x.c+y.c,x.d+y.d,x.e+y.e⟩) ⟨by simp only; omega,by simp only; omega,by simp only; omega,by simp only; omega,by simp only; omega⟩;simp only [eF] at hc;rw [qT (by omega),qT (by omega),qT (by omega),qT (by omega),qT (by omega),hc];rfl
theorem fN {x y:Fe} (h:cN x) (h2:cN y):uG [eF x,eF y]=some (gC x y):=by
 simp only [uG,XG];exact FD gC h h2
abbrev aVb:Cg:=aPd (Fe) Z9 (λ t=>↑t.a) (λ t=>↑t.b) (λ t=>↑t.c) (λ t=>↑t.d) (λ t=>↑t.e)
theorem aLA:CfOk prog aVb.c:=gk <| aA N5 <| aK
theorem xU:CallOk prog 77 XH:=by
 refine i7 aLA Tryz.func77 ?_;intro args t ht;obtain ⟨x,y,rfl,hx,hy,rfl⟩:=wL (F:=cJ) ht;obtain ⟨h1,h2,h3,h4,h5⟩:=hx;obtain ⟨g1,g2,g3,g4,g5⟩:=hy;refine (aUd ..).trans ?_;have hc:=Dr (x:=⟨x.a+(4503599627370458 - y.a),x.b+(4503599627370494 - y.b),x.c+(4503599627370494 - y.c),x.d+(4503599627370494 - y.d),x.e+(4503599627370494 - y.e)⟩) ⟨by simp only; omega,by simp only; omega,by simp only; omega,by simp only; omega,by simp only; omega⟩;have w:∀ (u v k:Nat),u <= 2251799813947392->v <= 2251799813947392->(k=4503599627370458 ∨ k=4503599627370494)->u64.wrap ((u:Int)+u64.wrap ((k:Int) - (v:Int)))=((u+(k - v):Nat):Int):=λ u v k hu hv hk=>by
  rw [Tp (n:=(k:Int) - v) (by omega) (by omega),Tp (by omega) (by omega)];omega
 rw [show (4503599627370458:Int)=((4503599627370458:Nat):Int) from rfl,show (4503599627370494:Int)=((4503599627370494:Nat):Int) from rfl,
  w _ _ _ h1 g1 (.inl rfl),w _ _ _ h2 g2 (.inr rfl),w _ _ _ h3 g3 (.inr rfl),w _ _ _ h4 g4 (.inr rfl),w _ _ _ h5 g5 (.inr rfl)]
 simp only [eF] at hc;rw [hc];rfl
theorem gP {x y:Fe} (h:cN x) (h2:cN y):wI [eF x,eF y]=some (cJ x y):=by
 simp only [wI,XH];exact FD cJ h h2
theorem tC:cN f0:=by simp [cN,f0]
abbrev aVc:Cg:=aPe (Fe) wI (λ t=>↑t.a) (λ t=>↑t.b) (λ t=>↑t.c) (λ t=>↑t.d) (λ t=>↑t.e)
theorem aLB:CfOk prog aVc.c:=gk <| aA xU <| aK
theorem A8:CallOk prog 84 XI:=by
 refine i7 aLB Tryz.func84 ?_;intro args t ht;obtain ⟨x,rfl,hx,rfl⟩:=qB (F:=λ x=>cJ f0 x) ht;refine (aUe ..).trans ?_;have hc:=gP tC hx;simp only [eF,f0] at hc;rw [show (0:Int)=((0:Nat):Int) from rfl,hc];rfl
theorem tD {x:Fe} (h:cN x):JA [eF x]=some (cJ f0 x):=by
 simp only [JA,XI];exact AJ (λ x=>cJ f0 x) h
abbrev aFs:Cg:=cW (Nat) aE0 (λ t=>↑(t / 18446744073709551616)) (λ t=>↑(t%18446744073709551616)) (Nat × Nat) aE1 (λ t=>↑t.fst) (λ t=>↑t.snd) (Fe) Z9 (λ t=>↑t.a) (λ t=>↑t.b) (λ t=>↑t.c) (λ t=>↑t.d) (λ t=>↑t.e)
theorem aLC:CfOk prog aFs.c:=gk <| aA aLu <| aA aLw <| aA N5 <| aK
theorem pz:[(0:Int),0,0,0,0,0,0,0,0,0]=[((0 / 18446744073709551616:Nat):Int),((0%18446744073709551616:Nat):Int),((0 / 18446744073709551616:Nat):Int),((0%18446744073709551616:Nat):Int),((0 / 18446744073709551616:Nat):Int),((0%18446744073709551616:Nat):Int),((0 / 18446744073709551616:Nat):Int),((0%18446744073709551616:Nat):Int),((0 / 18446744073709551616:Nat):Int),((0%18446744073709551616:Nat):Int)]:=rfl
theorem Sn {a b:Nat} (ha:a <= 2251799813947392) (hb:b <= 2251799813947392):a*b <= 5070602402093509226772943601664:=iJ ha hb
theorem mb2 {a b:Nat} (ha:a <= 2251799813947392) (hb:b <= 2251799813947392):a*(b*19) <= 96341445639776675308685928431616:=by
 have:=Sn ha hb;rw [<-d9]; omega
theorem nN:CallOk prog 76 XJ:=by
 refine aZ (fu:=λ _=>6) aLC Tryz.func76 ?_;intro args t ht;obtain ⟨x,y,rfl,hx,hy,rfl⟩:=wL (F:=aO) ht;obtain ⟨s0,s1,s2,s3,s4⟩:=aO7 hx hy;obtain ⟨h1,h2,h3,h4,h5⟩:=hx;obtain ⟨g1,g2,g3,g4,g5⟩:=hy;have p00:=Sn h1 g1;have p01:=Sn h1 g2;have p02:=Sn h1 g3;have p03:=Sn h1 g4;have p04:=Sn h1 g5;have p10:=Sn h2 g1;have p11:=Sn h2 g2;have p12:=Sn h2 g3;have p13:=Sn h2 g4;have p14:=mb2 h2 g5;have p20:=Sn h3 g1;have p21:=Sn h3 g2;have p22:=Sn h3 g3;have p23:=mb2 h3 g4;have p24:=mb2 h3 g5;have p30:=Sn h4 g1;have p31:=Sn h4 g2;have p32:=mb2 h4 g3;have p33:=mb2 h4 g4;have p34:=mb2 h4 g5;have p40:=Sn h5 g1;have p41:=mb2 h5 g2;have p42:=mb2 h5 g3;have p43:=mb2 h5 g4;have p44:=mb2 h5 g5;refine (aUg ..).trans ?_;rw [pz];show eS prog aFs 6 u9 _ 6 (some _)=_;rw [aF,aUy];rw [aF,aKZ,dD (by omega) (by omega) (by omega) (by omega),aC];rw [aF,aK0,dD (by omega) (by omega) (by omega) (by omega),aC];rw [aF,aK1,dD (by omega) (by omega) (by omega) (by omega),aC];rw [aF,aK2,dD (by omega) (by omega) (by omega) (by omega),aC];rw [aF,aK3,dD (by omega) (by omega) (by omega) (by omega),aC];rw [aF,aK4,aR,aUz];rw [aF,aUA];rw [aF,aK5,dD (by omega) (by omega) (by omega) (by omega),aC];rw [aF,aK6,dD (by omega) (by omega) (by omega) (by omega),aC];rw [aF,aK7,dD (by omega) (by omega) (by omega) (by omega),aC];rw [aF,aK8,dD (by omega) (by omega) (by omega) (by omega),aC];rw [aF,aK9,w19 (by omega),dD (by omega) (by omega) (by omega) (by omega),aC];rw [aF,aLa,aR,aUB];rw [aF,aUC];rw [aF,aLb,dD (by omega) (by omega) (by omega) (by omega),aC];rw [aF,aLc,dD (by omega) (by omega) (by omega) (by omega),aC];rw [aF,aLd,dD (by omega) (by omega) (by omega) (by omega),aC];rw [aF,aLe,w19 (by omega),dD (by omega) (by omega) (by omega) (by omega),aC];rw [aF,aLf,w19 (by omega),dD (by omega) (by omega) (by omega) (by omega),aC];rw [aF,aLg,aR,aUD];rw [aF,aUE];rw [aF,aLh,dD (by omega) (by omega) (by omega) (by omega),aC];rw [aF,aLi,dD (by omega) (by omega) (by omega) (by omega),aC];rw [aF,aLj,w19 (by omega),dD (by omega) (by omega) (by omega) (by omega),aC];rw [aF,aLk,w19 (by omega),dD (by omega) (by omega) (by omega) (by omega),aC];rw [aF,aLl,w19 (by omega),dD (by omega) (by omega) (by omega) (by omega),aC];rw [aF,aLm,aR,aUF];rw [aF,aUG];rw [aF,aLn,dD (by omega) (by omega) (by omega) (by omega),aC];rw [aF,aLo,w19 (by omega),dD (by omega) (by omega) (by omega) (by omega),aC];rw [aF,aLp,w19 (by omega),dD (by omega) (by omega) (by omega) (by omega),aC];rw [aF,aLq,w19 (by omega),dD (by omega) (by omega) (by omega) (by omega),aC];rw [aF,aLr,w19 (by omega),dD (by omega) (by omega) (by omega) (by omega),aC];rw [aF,aLs,aR,aUH];rw [aF,aUI,aR,aYy];simp only [bS];rw [show x.a*y.a+x.b*(y.e*19)+x.c*(y.d*19)+x.d*(y.c*19)+x.e*(y.b*19)=W9 x y from rfl,show x.a*y.b+x.b*y.a+x.c*(y.e*19)+x.d*(y.d*19)+x.e*(y.c*19)=XA x y from rfl,
  show x.a*y.c+x.b*y.b+x.c*y.a+x.d*(y.e*19)+x.e*(y.d*19)=XB x y from rfl,show x.a*y.d+x.b*y.c+x.c*y.b+x.d*y.a+x.e*(y.e*19)=XC x y from rfl,
  show x.a*y.e+x.b*y.d+x.c*y.c+x.d*y.b+x.e*y.a=UJ x y from rfl]
 rw [AK (s:=W9 x y) (by omega),aC,AK (s:=XA x y) (by omega),aC,AK (s:=XB x y) (by omega),aC,AK (s:=XC x y) (by omega),aC,AK (s:=UJ x y) (by omega),aC];clear p00 p01 p02 p03 p04 p10 p11 p12 p13 p14 p20 p21 p22 p23 p24 p30 p31 p32 p33 p34 p40 p41 p42 p43 p44;dsimp only;rw [aF,aUJ,qT (by omega),aF,aUK,qT (by omega),aF,aUL,qT (by omega),aF,aUM,qT (by omega),aF,aUN,w19 (by omega),qT (by omega),aF,aUO,aR,aFi];have hc:=Dr (x:=⟨W9 x y%2251799813685248+UJ x y / 2251799813685248*19,XA x y%2251799813685248+W9 x y / 2251799813685248,XB x y%2251799813685248+XA x y / 2251799813685248,XC x y%2251799813685248+XB x y / 2251799813685248,UJ x y%2251799813685248+XC x y / 2251799813685248⟩)
  ⟨by simp only; omega,by simp only; omega,by simp only; omega,by simp only; omega,by simp only; omega⟩
 simp only [eF] at hc;rw [hc];rfl
theorem bF {x y:Fe} (h:cN x) (h2:cN y):iC [eF x,eF y]=some (aO x y):=by
 simp only [iC,XJ];exact FD aO h h2
abbrev aVd:Cg:=aPf (Fe) iC (λ t=>↑t.a) (λ t=>↑t.b) (λ t=>↑t.c) (λ t=>↑t.d) (λ t=>↑t.e)
theorem aLD:CfOk prog aVd.c:=gk <| aA nN <| aK
theorem Ch:CallOk prog 80 aKT:=by
 refine i7 aLD Tryz.func80 ?_;intro args t ht;obtain ⟨x,rfl,hx,rfl⟩:=qB (F:=λ x=>aO x x) ht;refine (aUh ..).trans ?_;have hc:=bF hx hx;simp only [eF] at hc;rw [hc];rfl
theorem j4 {x:Fe} (h:cN x):Nz [eF x]=some (aO x x):=by
 simp only [Nz,aKT];exact AJ (λ x=>aO x x) h
abbrev aFt:Cg:=RE (Fe) Nx (λ t=>↑t.a) (λ t=>↑t.b) (λ t=>↑t.c) (λ t=>↑t.d) (λ t=>↑t.e) (Fe) Nz (λ t=>↑t.a) (λ t=>↑t.b) (λ t=>↑t.c) (λ t=>↑t.d) (λ t=>↑t.e) (Fe) iC (λ t=>↑t.a) (λ t=>↑t.b) (λ t=>↑t.c) (λ t=>↑t.d) (λ t=>↑t.e)
theorem aLE:CfOk prog aFt.c:=gk <| aA Ce <| aA Ch <| aA nN <| aK
theorem bAe (low i:Nat) (hl:low <= 256) (hi:i < 8):(decide (d8 u64 (eK u64 (low:Int) (i:Int)) 1=1))=Nat.beq (low / 2 ^ i%2) 1:=by
 rw [mV low i (by omega),aKw _ (iI (pQ ..) (by omega)),uN];congr 1;rw [show (1:Int)=((1:Nat):Int) from rfl];exact propext Int.ofNat_inj
theorem aLF (x:Fe) (hx:cN x) (low:Nat) (hl:low <= 256) (ys:List Int) (fu:Nat):∀ (i n:Nat) (o:Fe),cN o->i < n->i <= 255 ->
  eS prog aFt fu UO (UP _ Nx (λ t=>(t.a:Int)) (λ t=>(t.b:Int)) (λ t=>(t.c:Int)) (λ t=>(t.d:Int)) (λ t=>(t.e:Int)) _ Nz (λ t=>(t.a:Int)) (λ t=>(t.b:Int)) (λ t=>(t.c:Int)) (λ t=>(t.d:Int)) (λ t=>(t.e:Int)) _ iC (λ t=>(t.a:Int)) (λ t=>(t.b:Int)) (λ t=>(t.c:Int)) (λ t=>(t.d:Int)) (λ t=>(t.e:Int)) fu) n
   (some (FB (low:Int) ((i:Int) - 1) [(x.a:Int),x.b,x.c,x.d,x.e] ys [(o.a:Int),o.b,o.c,o.d,o.e]))=some (eF (Bg x low i o)):=by
 intro i
 induction i with
 | zero=>
  intro n o ho hn _;obtain ⟨n,rfl⟩:=aP (by omega:n ≠ 0);rw [aF,aFj,aH (by omega),aD,aR,aFk]; rfl
 | succ i ih=>
  intro n o ho hn hi;obtain ⟨n,rfl⟩:=aP (by omega:n ≠ 0);have hs:=j4 ho;have hm:=bF (aL ho ho) hx;simp only [eF] at hs hm;rw [show (((i+1:Nat):Int) - 1)=(i:Int) by omega,aF,aFj,aE (by omega),aB,hs,aC,bY (by omega) (by omega),Bg];by_cases c:8 <= i
  ·rw [aE (by omega:(8:Int) <= (i:Int)),aB,hm,aC,aE c,Fp,aB];exact ih n _ (aL (aL ho ho) hx) (by omega) (by omega)
  ·rw [aH (by omega:¬ (8:Int) <= (i:Int)),aD,aH (by omega),aD,bAe low i hl (by omega),aH c,Cu];cases Nat.beq (low / 2 ^ i%2) 1
   ·rw [aD,aD];exact ih n _ (aL ho ho) (by omega) (by omega)
   ·rw [aB,aB,hm,aC];exact ih n _ (aL (aL ho ho) hx) (by omega) (by omega)
theorem aFu:CallOk prog 161 aE3:=by
 refine aZ (fu:=λ _=>300) aLE Tryz.func161 ?_;intro args t ht;unfold aE3 at ht;simp only at ht;split at ht
 ·rename_i a b c d e n less;obtain ⟨h1,h2⟩:=cC ht;simp only [aX,bG] at h1;obtain ⟨⟨h1,n0,n1⟩,l0,l1⟩:=h1;obtain ⟨x,rfl,rfl,rfl,rfl,rfl,hx,ex⟩:=eI h1;obtain ⟨n,rfl⟩:=b9 n0;obtain ⟨less,rfl⟩:=b9 l0;subst h2;rw [ex];refine (aUj ..).trans ?_;have h1:=xT (n:=1) (by decide);rw [show ((1:Nat):Int)=1 from rfl] at h1;rw [h1,aC,bY (by omega) (by omega),show (256:Int) - (less:Int)=((256 - less:Nat):Int) by omega,XN (by omega)];exact aLF x hx (256 - less) (by omega) _ 300 n 300 (fe 1) (cV 1) (by omega) (by omega)
 ·cases ht
theorem aLG {x:Fe} {n less:Nat} (h:cN x) (hn:n <= 255) (hl:less <= 256):aT1 [eF x,.int .i64 (n:Int),.int .u64 (less:Int)]=some (Bg x (256 - less) n (fe 1)):=by
 simp only [aT1,aE3,eF,bE];rw [eJ h,aE (by omega),aE (by omega)]; rfl
abbrev aVe:Cg:=aPg (Fe) aT1 (λ t=>↑t.a) (λ t=>↑t.b) (λ t=>↑t.c) (λ t=>↑t.d) (λ t=>↑t.e)
theorem aLH:CfOk prog aVe.c:=gk <| aA aFu <| aK
theorem aFv:CallOk prog 128 UL:=by
 refine i7 aLH Tryz.func128 ?_;intro args t ht;obtain ⟨x,rfl,hx,rfl⟩:=qB (F:=LQ) ht;refine (aUk ..).trans ?_;have hc:=aLG (n:=252) (less:=3) hx (by omega) (by omega);simp only [eF] at hc;rw [show (252:Int)=((252:Nat):Int) from rfl,show (3:Int)=((3:Nat):Int) from rfl,hc];rfl
theorem aAc {x:Fe} (h:cN x):UM [eF x]=some (LQ x):=by
 simp only [UM,UL];exact AJ LQ h
set_option maxRecDepth 4000
theorem aVf {u:Nat} (h:u+19 < 18446744073709551616):u64.wrap ((u:Int)+19)=((u+19:Nat):Int):=qT (v:=19) h
theorem bAf {u:Nat} (h:19*u < 18446744073709551616):u64.wrap (19*(u:Int))=((19*u:Nat):Int):=by
 rw [show (19:Int)=((19:Nat):Int) from rfl,<-oA]; exact XN h
abbrev aFw:Cg:=rM (Fe) Z9 (λ t=>↑t.a) (λ t=>↑t.b) (λ t=>↑t.c) (λ t=>↑t.d) (λ t=>↑t.e)
theorem aLI:CfOk prog aFw.c:=gk <| aA N5 <| aK
theorem A9:CallOk prog 130 Ny:=by
 refine aZ (fu:=λ _=>6) aLI Tryz.func130 ?_;intro args t ht;obtain ⟨x,rfl,hx,rfl⟩:=qB (F:=Dm) ht;have c1:=Dr (Nv hx);have c2:=Dr (Nv (I9 (Nv hx)));have hm:fv (oL (oL x))%aJ=fv x%aJ:=by rw [Dl,Dl]
 obtain ⟨h1,h2,h3,h4,h5⟩:=aKS hx;generalize hy:oL (oL x)=y at *;simp only [eF] at c1 c2;refine (aUb ..).trans ?_;rw [c1,aC,c2,aC];show eS prog aFw 6 Cc _ 6 (some _)=_;have b0:(y.a+19) / 2251799813685248 <= 1:=by omega
 generalize e0:(y.a+19) / 2251799813685248=o0 at *;have b1:(y.b+o0) / 2251799813685248 <= 1:=by omega
 generalize e1:(y.b+o0) / 2251799813685248=o1 at *;have b2:(y.c+o1) / 2251799813685248 <= 1:=by omega
 generalize e2:(y.c+o1) / 2251799813685248=o2 at *;have b3:(y.d+o2) / 2251799813685248 <= 1:=by omega
 generalize e3:(y.d+o2) / 2251799813685248=o3 at *;have b4:(y.e+o3) / 2251799813685248 <= 1:=by omega
 generalize e4:(y.e+o3) / 2251799813685248=o4 at *;rw [aVf (by omega),Bi,e0,aF,aUP,qT (by omega),Bi,e1,aF,aUQ,qT (by omega),Bi,e2,aF,aUR,qT (by omega),Bi,e3,aF,aUS,qT (by omega),Bi,e4,aF,aUT,aR,aYz,bAf (by omega),qT (by omega)];rw [aF,aUU,Bi,qT (by omega),msk _ (by omega),aF,aUV,Bi,qT (by omega),msk _ (by omega),aF,aUW,Bi,qT (by omega),msk _ (by omega),aF,aUX,Bi,qT (by omega),msk _ (by omega),aF,aUY,aR,aYA,msk _ (by omega)];have key:=aEX (a:=y.a) (b:=y.b) (c:=y.c) (d:=y.d) (e:=y.e) h1 h2 h3 h4 h5 e0.symm e1.symm e2.symm e3.symm e4.symm rfl rfl rfl rfl rfl;show _=some (eF (Dm x));rw [Dm,<-hm,show y=⟨y.a,y.b,y.c,y.d,y.e⟩ from rfl,key];rfl
theorem tE {x:Fe} (h:cN x):pO [eF x]=some (Dm x):=by
 simp only [pO,Ny];exact AJ Dm h
theorem aYB (x:Fe):fv (Dm x)=fv x%aJ:=CF (fC (bK _ (by decide)) (by decide))
theorem eM (n:Nat):n%aJ < aJ:=bK _ (by decide)
abbrev aVg:Cg:=aPh (Fe) pO (λ t=>↑t.a) (λ t=>↑t.b) (λ t=>↑t.c) (λ t=>↑t.d) (λ t=>↑t.e)
theorem aLJ:CfOk prog aVg.c:=gk <| aA A9 <| aK
theorem aVh (x:Fe):decide (d8 u64 ((Dm x).a:Int) 1=1)=oX x:=by
 have hl:(Dm x).a < 2251799813685248:=aO6.1;have e:fv (Dm x)%2=(Dm x).a%2:=by simp only [fv]; omega
 rw [aKw _ (by omega),oX,<-aYB,e,uN];congr 1;rw [show (1:Int)=((1:Nat):Int) from rfl];exact propext Int.ofNat_inj
theorem US:CallOk prog 81 aT3:=by
 refine i7 aLJ Tryz.func81 ?_;intro args t ht;obtain ⟨x,rfl,hx,rfl⟩:=qB (F:=oX) ht;have c:=tE hx;simp only [eF] at c;refine (aUl ..).trans ?_;rw [c,aC,aVh];rfl
theorem Ds {x:Fe} (h:cN x):aAa [eF x]=some (oX x):=by
 simp only [aAa,aT3];exact AJ oX h
theorem aFx {m n:Nat} (hm:m < aJ) (hn:n < aJ):(([((fe m).a:Int),(fe m).b,(fe m).c,(fe m).d,(fe m).e]:List Int)=[((fe n).a:Int),(fe n).b,(fe n).c,(fe n).d,(fe n).e]) ↔ m=n:=by
 constructor
 ·intro h;simp only [List.cons.injEq,Int.ofNat_inj,and_true] at h;obtain ⟨h1,h2,h3,h4,h5⟩:=h;have:fe m=fe n:=by
   cases hm':fe m;cases hn':fe n;rw [hm',hn'] at h1 h2 h3 h4 h5;simp only at h1 h2 h3 h4 h5;rw [h1,h2,h3,h4,h5]
  have:=dQ fv this;rwa [CF (fC hm (by decide)),CF (fC hn (by decide))] at this
 ·intro h;rw [h]
theorem aLK:fe 0=f0:=rfl
abbrev aVi:Cg:=aPi (Fe) pO (λ t=>↑t.a) (λ t=>↑t.b) (λ t=>↑t.c) (λ t=>↑t.d) (λ t=>↑t.e)
theorem aLL:CfOk prog aVi.c:=gk <| aA A9 <| aK
theorem aFy:CallOk prog 119 aKU:=by
 refine i7 aLL Tryz.func119 ?_;intro args t ht;obtain ⟨x,rfl,hx,rfl⟩:=qB (F:=Gn) ht;have c:=tE hx;simp only [eF] at c;refine (aUm ..).trans ?_;rw [c,aC];have e:=aFx (eM (fv x)) (n:=0) (by decide);rw [aLK] at e;show some (AV.bool (decide ([((Dm x).a:Int),(Dm x).b,(Dm x).c,(Dm x).d,(Dm x).e]=[((f0.a:Nat):Int),(f0.b:Nat),(f0.c:Nat),(f0.d:Nat),(f0.e:Nat)])))=some (AV.bool (Gn x));rw [Gn,uN,Dm,j7.2 e]
theorem aLM {x:Fe} (h:cN x):aT4 [eF x]=some (Gn x):=by
 simp only [aT4,aKU];exact AJ Gn h
abbrev aVj:Cg:=aPj (Fe) pO (λ t=>↑t.a) (λ t=>↑t.b) (λ t=>↑t.c) (λ t=>↑t.d) (λ t=>↑t.e)
theorem aLN:CfOk prog aVj.c:=gk <| aA A9 <| aK
theorem UT:CallOk prog 129 aKV:=by
 refine i7 aLN Tryz.func129 ?_;intro args t ht;obtain ⟨x,y,rfl,hx,hy,rfl⟩:=wL (F:=kO) ht;have c:=tE hx;have c2:=tE hy;simp only [eF] at c c2;refine (aUo ..).trans ?_;rw [c,aC,c2,aC];have e:=aFx (eM (fv x)) (eM (fv y));show some (AV.bool (decide ([((Dm x).a:Int),(Dm x).b,(Dm x).c,(Dm x).d,(Dm x).e]=[((Dm y).a:Int),(Dm y).b,(Dm y).c,(Dm y).d,(Dm y).e])))=some (AV.bool (kO x y));rw [kO,uN,Dm,Dm,j7.2 e]
theorem Dt {x y:Fe} (h:cN x) (h2:cN y):aKW [eF x,eF y]=some (kO x y):=by
 simp only [aKW,aKV];exact FD kO h h2
abbrev aVk:Cg:=aPk (Bool) aAa (λ t=>t) (Fe) JA (λ t=>↑t.a) (λ t=>↑t.b) (λ t=>↑t.c) (λ t=>↑t.d) (λ t=>↑t.e)
theorem aLO:CfOk prog aVk.c:=gk <| aA US <| aA A8 <| aK
theorem HO:CallOk prog 85 aE4:=by
 refine i7 aLO Tryz.func85 ?_;intro args t ht;obtain ⟨x,rfl,hx,rfl⟩:=qB (F:=wJ) ht;have c:=Ds hx;have c2:=tD hx;simp only [eF] at c c2;refine (aUp ..).trans ?_;rw [c,aC];show _=some (eF (wJ x));rw [wJ];cases oX x
 ·rfl
 ·rw [aB,c2,aC]; rfl
theorem AL {x:Fe} (h:cN x):GJ [eF x]=some (wJ x):=by
 simp only [GJ,aE4];exact AJ wJ h
end
end Go.Eng
