import Derived.Test.YtmicbaijcbkmjaaGreatZL3
import Derived.Test.YtmicbaijcbkmjaaGreatZS0
namespace Go.Eng
open Go.IntKind (u64 i64 u8)
noncomputable section
set_option linter.unusedVariables false
abbrev aJ:Nat:=57896044618658097711785492504343953926634992332820282019728792003956564819949
structure Fe where
 a:Nat
 b:Nat
 c:Nat
 d:Nat
 e:Nat
def fv (x:Fe):Nat:=x.a+2251799813685248*x.b+5070602400912917605986812821504*x.c+11417981541647679048466287755595961091061972992*x.d+25711008708143844408671393477458601640355247900524685364822016*x.e
def fe (n:Nat):Fe:=⟨n%2251799813685248,n / 2251799813685248%2251799813685248,n / 5070602400912917605986812821504%2251799813685248,n / 11417981541647679048466287755595961091061972992%2251799813685248,n / 25711008708143844408671393477458601640355247900524685364822016%2251799813685248⟩
def cN (x:Fe):Prop:=x.a <= 2251799813947392 /\ x.b <= 2251799813947392 /\ x.c <= 2251799813947392 /\ x.d <= 2251799813947392 /\ x.e <= 2251799813947392
def f64 (x:Fe):Prop:=x.a < 18446744073709551616 /\ x.b < 18446744073709551616 /\ x.c < 18446744073709551616 /\ x.d < 18446744073709551616 /\ x.e < 18446744073709551616
def oK (x:Fe):Fe:=⟨x.a%2251799813685248+x.e / 2251799813685248*19,x.b%2251799813685248+x.a / 2251799813685248,x.c%2251799813685248+x.b / 2251799813685248,x.d%2251799813685248+x.c / 2251799813685248,x.e%2251799813685248+x.d / 2251799813685248⟩
theorem MN {x:Fe} (h:cN x):f64 x:=by
 obtain ⟨h1,h2,h3,h4,h5⟩:=h;refine ⟨?_,?_,?_,?_,?_⟩ <;> omega
theorem H7 {x:Fe} (h:f64 x):cN (oK x):=by
 obtain ⟨h1,h2,h3,h4,h5⟩:=h;simp only [cN,oK];refine ⟨?_,?_,?_,?_,?_⟩ <;> omega
theorem aIm (x:Fe):fv (oK x)+aJ*(x.e / 2251799813685248)=fv x:=by
 simp only [fv,oK,aJ];have ha:=eO x.a 2251799813685248;have hb:=eO x.b 2251799813685248;have hc:=eO x.c 2251799813685248;have hd:=eO x.d 2251799813685248;have he:=eO x.e 2251799813685248;omega
theorem DG (x:Fe):fv (oK x)%aJ=fv x%aJ:=by
 rw [<-aIm x,BT]
theorem aNU {n:Nat}:(fe n).a < 2251799813685248 /\ (fe n).b < 2251799813685248 /\ (fe n).c < 2251799813685248 /\ (fe n).d < 2251799813685248 /\ (fe n).e < 2251799813685248:=by
 simp only [fe];refine ⟨?_,?_,?_,?_,?_⟩ <;> exact bK _ (by decide)
theorem cV (n:Nat):cN (fe n):=by
 obtain ⟨h1,h2,h3,h4,h5⟩:=@aNU n;refine ⟨?_,?_,?_,?_,?_⟩ <;> omega
theorem dd (n k:Nat):n / k / 2251799813685248=n / (k*2251799813685248):=gR ..
theorem B6 {n:Nat} (h:n < 57896044618658097711785492504343953926634992332820282019728792003956564819968):fv (fe n)=n:=by
 simp only [fv,fe];have e1:=dd n 2251799813685248;have e2:=dd n 5070602400912917605986812821504;have e3:=dd n 11417981541647679048466287755595961091061972992;simp only [Nat.reduceMul] at e1 e2 e3;have h4:n / 25711008708143844408671393477458601640355247900524685364822016 < 2251799813685248:=by omega
 rw [<-e1,<-e2,<-e3] at *;omega
theorem aXl {x:Fe} (h:x.a < 2251799813685248 /\ x.b < 2251799813685248 /\ x.c < 2251799813685248 /\ x.d < 2251799813685248 /\ x.e < 2251799813685248):fe (fv x)=x:=by
 obtain ⟨a,b,c,d,e⟩:=x;obtain ⟨h1,h2,h3,h4,h5⟩:=h;simp only at h1 h2 h3 h4 h5;have e1:=dd (fv ⟨a,b,c,d,e⟩) 2251799813685248;have e2:=dd (fv ⟨a,b,c,d,e⟩) 5070602400912917605986812821504;have e3:=dd (fv ⟨a,b,c,d,e⟩) 11417981541647679048466287755595961091061972992;simp only [Nat.reduceMul] at e1 e2 e3;have g1:fv ⟨a,b,c,d,e⟩ / 2251799813685248=b+2251799813685248*c+5070602400912917605986812821504*d+11417981541647679048466287755595961091061972992*e:=by simp only [fv]; omega
 have g2:fv ⟨a,b,c,d,e⟩ / 5070602400912917605986812821504=c+2251799813685248*d+5070602400912917605986812821504*e:=by rw [<-e1,g1]; omega
 have g3:fv ⟨a,b,c,d,e⟩ / 11417981541647679048466287755595961091061972992=d+2251799813685248*e:=by rw [<-e2,g2]; omega
 have g4:fv ⟨a,b,c,d,e⟩ / 25711008708143844408671393477458601640355247900524685364822016=e:=by rw [<-e3,g3]; omega
 simp only [fe,g1,g2,g3,g4,Fe.mk.injEq];refine ⟨?_,?_,?_,?_,?_⟩
 ·simp only [fv]; omega
 all_goals omega
def gC (x y:Fe):Fe:=oK ⟨x.a+y.a,x.b+y.b,x.c+y.c,x.d+y.d,x.e+y.e⟩
def cJ (x y:Fe):Fe:=oK ⟨x.a+(4503599627370458 - y.a),x.b+(4503599627370494 - y.b),x.c+(4503599627370494 - y.c),x.d+(4503599627370494 - y.d),x.e+(4503599627370494 - y.e)⟩
theorem cD {x y:Fe} (hx:cN x) (hy:cN y):cN (gC x y):=by
 obtain ⟨h1,h2,h3,h4,h5⟩:=hx;obtain ⟨g1,g2,g3,g4,g5⟩:=hy;refine H7 ⟨?_,?_,?_,?_,?_⟩ <;> simp only <;> omega
theorem add_mod (x y:Fe):fv (gC x y)%aJ=(fv x+fv y)%aJ:=by
 rw [gC,DG];congr 1;simp only [fv]; omega
theorem cL {x y:Fe} (hx:cN x):cN (cJ x y):=by
 obtain ⟨h1,h2,h3,h4,h5⟩:=hx;refine H7 ⟨?_,?_,?_,?_,?_⟩ <;> simp only <;> omega
theorem MO {x y:Fe} (hy:cN y):(fv (cJ x y)+fv y)%aJ=fv x%aJ:=by
 rw [cJ,Ed,DG,<-Ed];obtain ⟨g1,g2,g3,g4,g5⟩:=hy;have:fv ⟨x.a+(4503599627370458 - y.a),x.b+(4503599627370494 - y.b),x.c+(4503599627370494 - y.c),x.d+(4503599627370494 - y.d),x.e+(4503599627370494 - y.e)⟩+fv y=fv x+aJ*2:=by
  simp only [fv,aJ]; omega
 rw [this,BT]
def VV (x y:Fe):Nat:=x.a*y.a+x.b*(y.e*19)+x.c*(y.d*19)+x.d*(y.c*19)+x.e*(y.b*19)
def VW (x y:Fe):Nat:=x.a*y.b+x.b*y.a+x.c*(y.e*19)+x.d*(y.d*19)+x.e*(y.c*19)
def VX (x y:Fe):Nat:=x.a*y.c+x.b*y.b+x.c*y.a+x.d*(y.e*19)+x.e*(y.d*19)
def VY (x y:Fe):Nat:=x.a*y.d+x.b*y.c+x.c*y.b+x.d*y.a+x.e*(y.e*19)
def S4 (x y:Fe):Nat:=x.a*y.e+x.b*y.d+x.c*y.c+x.d*y.b+x.e*y.a
def aO (x y:Fe):Fe:=oK ⟨VV x y%2251799813685248+S4 x y / 2251799813685248*19,VW x y%2251799813685248+VV x y / 2251799813685248,VX x y%2251799813685248+VW x y / 2251799813685248,VY x y%2251799813685248+VX x y / 2251799813685248,S4 x y%2251799813685248+VY x y / 2251799813685248⟩
theorem aQE {a b:Nat} (ha:a <= 2251799813947392) (hb:b <= 42784196465000448):a*b <= 96341445639776675308685928431616:=cK (iJ ha hb) (by decide)
theorem aIn {a b:Nat} (ha:a <= 2251799813947392) (hb:b <= 2251799813947392):a*b <= 5070602402093509226772943601664:=cK (iJ ha hb) (by decide)
theorem aNV {x y:Fe} (hx:cN x) (hy:cN y):VV x y < 649037107316853453566312041152512 /\ VW x y < 649037107316853453566312041152512 /\ VX x y < 649037107316853453566312041152512 /\ VY x y < 649037107316853453566312041152512 /\ S4 x y <= 25353012010467546133864718008320:=by
 obtain ⟨h1,h2,h3,h4,h5⟩:=hx;obtain ⟨g1,g2,g3,g4,g5⟩:=hy;have q:∀ {a b:Nat},a <= 2251799813947392->b <= 2251799813947392->a*(b*19) <= 96341445639776675308685928431616:=λ ha hb=>aQE ha (by omega);have r:∀ {a b:Nat},a <= 2251799813947392->b <= 2251799813947392->a*b <= 5070602402093509226772943601664:=λ ha hb=>aIn ha hb;simp only [VV,VW,VX,VY,S4];have:=r h1 g1; have:=r h1 g2; have:=r h1 g3; have:=r h1 g4; have:=r h1 g5;have:=r h2 g1; have:=r h2 g2; have:=r h2 g3; have:=r h2 g4; have:=q h2 g5;have:=r h3 g1; have:=r h3 g2; have:=r h3 g3; have:=q h3 g4; have:=q h3 g5;have:=r h4 g1; have:=r h4 g2; have:=q h4 g3; have:=q h4 g4; have:=q h4 g5;have:=r h5 g1; have:=q h5 g2; have:=q h5 g3; have:=q h5 g4; have:=q h5 g5;refine ⟨?_,?_,?_,?_,?_⟩ <;> omega
theorem aL {x y:Fe} (hx:cN x) (hy:cN y):cN (aO x y):=by
 obtain ⟨h1,h2,h3,h4,h5⟩:=aNV hx hy;refine H7 ⟨?_,?_,?_,?_,?_⟩ <;> simp only <;> omega
theorem mul_mod (x y:Fe):fv (aO x y)%aJ=fv x*fv y%aJ:=by
 rw [aO,DG];have e1:fv ⟨VV x y%2251799813685248+S4 x y / 2251799813685248*19,VW x y%2251799813685248+VV x y / 2251799813685248,VX x y%2251799813685248+VW x y / 2251799813685248,VY x y%2251799813685248+VX x y / 2251799813685248,S4 x y%2251799813685248+VY x y / 2251799813685248⟩+aJ*(S4 x y / 2251799813685248)=fv ⟨VV x y,VW x y,VX x y,VY x y,S4 x y⟩:=by
  simp only [fv,aJ];generalize VV x y=s0,VW x y=s1,VX x y=s2,VY x y=s3,S4 x y=s4;omega
 have e2:fv ⟨VV x y,VW x y,VX x y,VY x y,S4 x y⟩+aJ*(x.b*y.e+x.c*y.d+x.d*y.c+x.e*y.b+2251799813685248*(x.c*y.e+x.d*y.d+x.e*y.c)+5070602400912917605986812821504*(x.d*y.e+x.e*y.d)+11417981541647679048466287755595961091061972992*(x.e*y.e))=fv x*fv y:=by
  simp only [fv,aJ,VV,VW,VX,VY,S4];grind
 rw [<-e2,BT,<-e1,BT]
def DH (x:Fe):Fe:=fe (fv x%57896044618658097711785492504343953926634992332820282019728792003956564819949)
theorem aQF {v r1 r2 o4 q4:Nat} (s1:v+19=r1+57896044618658097711785492504343953926634992332820282019728792003956564819968*o4) (s2:v+19*o4=r2+57896044618658097711785492504343953926634992332820282019728792003956564819968*q4)
  (l1:r1 < 57896044618658097711785492504343953926634992332820282019728792003956564819968) (l2:r2 < 57896044618658097711785492504343953926634992332820282019728792003956564819968)
  (lv:v < 115792089237316195423570985008687907853269984665640564039457584007913129639898) (b4:o4 <= 1) (e:o4=1->q4=o4):v%aJ=r2:=by
 simp only [aJ];rcases (by omega:o4=0 ∨ o4=1) with h | h
 ·omega
 ·have:=e h;omega
theorem aBA {a b c d e o0 o1 o2 o3 o4 q0 q1 q2 q3 q4:Nat} (ha:a <= 2251799813685266) (hb:b <= 2251799813685248) (hc:c <= 2251799813685248) (hd:d <= 2251799813685248) (he:e <= 2251799813685248)
  (h0:o0=(a+19) / 2251799813685248) (h1:o1=(b+o0) / 2251799813685248) (h2:o2=(c+o1) / 2251799813685248) (h3:o3=(d+o2) / 2251799813685248) (h4:o4=(e+o3) / 2251799813685248)
  (g0:q0=(a+19*o4) / 2251799813685248) (g1:q1=(b+q0) / 2251799813685248) (g2:q2=(c+q1) / 2251799813685248) (g3:q3=(d+q2) / 2251799813685248) (g4:q4=(e+q3) / 2251799813685248) :
  fe (fv ⟨a,b,c,d,e⟩%aJ)=⟨(a+19*o4)%2251799813685248,(b+q0)%2251799813685248,(c+q1)%2251799813685248,(d+q2)%2251799813685248,(e+q3)%2251799813685248⟩:=by
 rw [<-aXl (x:=⟨(a+19*o4)%2251799813685248,(b+q0)%2251799813685248,(c+q1)%2251799813685248,(d+q2)%2251799813685248,(e+q3)%2251799813685248⟩) ⟨bK _ (by decide),bK _ (by decide),bK _ (by decide),bK _ (by decide),bK _ (by decide)⟩];congr 1;have b0:o0 <= 1:=by omega
 have b1:o1 <= 1:=by omega
 have b2:o2 <= 1:=by omega
 have b3:o3 <= 1:=by omega
 have b4:o4 <= 1:=by omega
 have s1:fv ⟨a,b,c,d,e⟩+19=fv ⟨(a+19)%2251799813685248,(b+o0)%2251799813685248,(c+o1)%2251799813685248,(d+o2)%2251799813685248,(e+o3)%2251799813685248⟩+57896044618658097711785492504343953926634992332820282019728792003956564819968*o4:=by
  simp only [fv]; omega
 have s2:fv ⟨a,b,c,d,e⟩+19*o4=fv ⟨(a+19*o4)%2251799813685248,(b+q0)%2251799813685248,(c+q1)%2251799813685248,(d+q2)%2251799813685248,(e+q3)%2251799813685248⟩+57896044618658097711785492504343953926634992332820282019728792003956564819968*q4:=by
  simp only [fv]; omega
 have lt:∀ u v w x y:Nat,fv ⟨u%2251799813685248,v%2251799813685248,w%2251799813685248,x%2251799813685248,y%2251799813685248⟩ < 57896044618658097711785492504343953926634992332820282019728792003956564819968:=by
  intro u v w x y;simp only [fv]; omega
 have l1:=lt (a+19) (b+o0) (c+o1) (d+o2) (e+o3);have l2:=lt (a+19*o4) (b+q0) (c+q1) (d+q2) (e+q3);have lv:fv ⟨a,b,c,d,e⟩ < 115792089237316195423570985008687907853269984665640564039457584007913129639898:=by simp only [fv]; omega
 refine aQF s1 s2 l1 l2 lv b4 λ h=>?_;have e0:q0=o0:=by rw [g0,h0,h]
 have e1:q1=o1:=by rw [g1,h1,e0]
 have e2:q2=o2:=by rw [g2,h2,e1]
 have e3:q3=o3:=by rw [g3,h3,e2]
 rw [g4,h4,e3]
theorem aIo {x:Fe} (h:cN x):(oK (oK x)).a <= 2251799813685266 /\ (oK (oK x)).b <= 2251799813685248 /\ (oK (oK x)).c <= 2251799813685248 /\ (oK (oK x)).d <= 2251799813685248 /\ (oK (oK x)).e <= 2251799813685248:=by
 obtain ⟨h1,h2,h3,h4,h5⟩:=H7 (MN h);generalize oK x=y at *;simp only [oK];refine ⟨?_,?_,?_,?_,?_⟩ <;> omega
def Bh (x:Fe) (low:Nat):Nat->Fe->Fe
 | 0,o=>o
 | i+1,o=>Bh x low i (cond (decide (8 <= i) || Nat.beq (low / 2 ^ i%2) 1) (aO (aO o o) x) (aO o o))
theorem S5 {x:Fe} {low:Nat} (hx:cN x):∀ {i:Nat} {o:Fe},cN o->cN (Bh x low i o):=by
 intro i
 induction i with
 | zero=>intro o h; exact h
 | succ i ih=>
  intro o h;refine ih ?_;cases (decide (8 <= i) || Nat.beq (low / 2 ^ i%2) 1)
  ·exact aL h h
  ·exact aL (aL h h) hx
open Go Go.Proofs
set_option linter.unusedSimpArgs false
def aBB:FA (Int × Int):=qT.run
def aBC:FA (Int × Int):=jU.run
def eF (x:Fe):AV:=.agg (.ints .u64 [(x.a:Int),(x.b:Int),(x.c:Int),(x.d:Int),(x.e:Int)]) 5
def wZ (a b c d e:Int):Bool:=decide (0 <= a /\ a <= 2251799813947392 /\ 0 <= b /\ b <= 2251799813947392 /\ 0 <= c /\ c <= 2251799813947392 /\ 0 <= d /\ d <= 2251799813947392 /\ 0 <= e /\ e <= 2251799813947392)
def inG (a b c d e:Int):Bool:=hO a && hO b && hO c && hO d && hO e
def xI (a b c d e:Int):Fe:=⟨a.toNat,b.toNat,c.toNat,d.toNat,e.toNat⟩
def zO {T:Type} (F:Fe->T):FA T
 | [.c (.s (.pl (.agg (.ints .u64 [a,b,c,d,e]) 5)))]=>cond (wZ a b c d e) (some (F (xI a b c d e))) none
 | _=>none
def VZ {T:Type} (F:Fe->T):FA T
 | [.c (.s (.pl (.agg (.ints .u64 [a,b,c,d,e]) 5)))]=>cond (inG a b c d e) (some (F (xI a b c d e))) none
 | _=>none
def DI {T:Type} (F:Fe->Fe->T):FA T
 | [.c (.s (.pl (.agg (.ints .u64 [a,b,c,d,e]) 5))),.c (.s (.pl (.agg (.ints .u64 [a',b',c',d',e']) 5)))]=>cond (wZ a b c d e && wZ a' b' c' d' e') (some (F (xI a b c d e) (xI a' b' c' d' e'))) none
 | _=>none
def Va:Summ where
 T:=Nat
 run:=λ
  | [.c (.s (.pl (.agg (.ints .u64 [h,l]) 2))),.c (.s (.pl (.int .u64 x))),.c (.s (.pl (.int .u64 y)))]=>
   cond (hO h && hO l && hO x && hO y && Nat.blt (18446744073709551616*h.toNat+l.toNat+x.toNat*y.toNat) 340282366920938463463374607431768211456) (some (18446744073709551616*h.toNat+l.toNat+x.toNat*y.toNat)) none
  | _=>none
 enc:=λ t=>.agg (.ints .u64 [((t / 18446744073709551616:Nat):Int),((t%18446744073709551616:Nat):Int)]) 2
def aBD:FA Nat:=Va.run
def Vb:Summ where
 T:=Nat × Nat
 run:=λ
  | [.c (.s (.pl (.agg (.ints .u64 [h,l]) 2)))]=>cond (hO h && hO l && decide (h < 2251799813685248)) (some ((18446744073709551616*h.toNat+l.toNat)%2251799813685248,(18446744073709551616*h.toNat+l.toNat) / 2251799813685248)) none
  | _=>none
 enc:=λ t=>.tup [.s (.pl (.int .u64 (t.1:Int))),.s (.pl (.int .u64 (t.2:Int)))]
def aBE:FA (Nat × Nat):=Vb.run
def aBF:Summ where
 T:=Fe
 run:=λ
  | [.c (.s (.pl (.int .u64 n)))]=>cond (hO n) (some (fe n.toNat)) none
  | _=>none
 enc:=eF
def MP:FA Fe:=aBF.run
def aQG:Summ:={ T:=Fe,run:=VZ oK,enc:=eF }
def Yv:FA Fe:=aQG.run
def MQ:Summ:={ T:=Fe,run:=zO DH,enc:=eF }
def pD:FA Fe:=MQ.run
def Vc:Summ:={ T:=Fe,run:=DI gC,enc:=eF }
def tU:FA Fe:=Vc.run
def Vd:Summ:={ T:=Fe,run:=DI cJ,enc:=eF }
def vQ:FA Fe:=Vd.run
def f0:Fe:=⟨0,0,0,0,0⟩
def Ve:Summ:={ T:=Fe,run:=zO λ x=>cJ f0 x,enc:=eF }
def H8:FA Fe:=Ve.run
def Vf:Summ:={ T:=Fe,run:=DI aO,enc:=eF }
def iB:FA Fe:=Vf.run
def aIp:Summ:={ T:=Fe,run:=zO λ x=>aO x x,enc:=eF }
def MR:FA Fe:=aIp.run
def aBG:Summ where
 T:=Fe
 run:=λ
  | [.c (.s (.pl (.agg (.ints .u64 [a,b,c,d,e]) 5))),.c (.s (.pl (.int .i64 n))),.c (.s (.pl (.int .u64 less)))]=>
   cond (wZ a b c d e && decide (0 <= n /\ n <= 255) && decide (0 <= less /\ less <= 256)) (some (Bh (xI a b c d e) (256 - less.toNat) n.toNat (fe 1))) none
  | _=>none
 enc:=eF
def aQH:FA Fe:=aBG.run
def aQI (x:Fe):Fe:=Bh x 235 255 (fe 1)
def Kr (x:Fe):Fe:=Bh x 253 252 (fe 1)
def S6:Summ:={ T:=Fe,run:=zO Kr,enc:=eF }
def S7:FA Fe:=S6.run
def oV (x:Fe):Bool:=Nat.beq (fv x%aJ%2) 1
def aQJ:Summ:={ T:=Bool,run:=zO oV,enc:=λ t=>.bool t }
def Yw:FA Bool:=aQJ.run
def Gn (x:Fe):Bool:=Nat.beq (fv x%aJ) 0
def aIq:Summ:={ T:=Bool,run:=zO Gn,enc:=λ t=>.bool t }
def aQK:FA Bool:=aIq.run
def kJ (x y:Fe):Bool:=Nat.beq (fv x%aJ) (fv y%aJ)
def aIr:Summ:={ T:=Bool,run:=DI kJ,enc:=λ t=>.bool t }
def aIs:FA Bool:=aIr.run
def vU (x:Fe):Fe:=cond (oV x) (cJ f0 x) x
def aBH:Summ:={ T:=Fe,run:=zO vU,enc:=eF }
def F6:FA Fe:=aBH.run
def lR (t:List Int):AV:=.agg (.ints .u8 t) 32
def MS:Summ:={ T:=List Int,run:=zO λ x=>lo 32 (fv x%aJ),enc:=lR }
def A1:FA (List Int):=MS.run
def aBI:Summ:={ T:=Fe,run:=Kb λ a=>fe (val a%aJ),enc:=eF }
def Ks:FA Fe:=aBI.run
def H9:Summ where
 T:=Fe
 run:=λ
  | [.c (.s (.pl (.str s)))]=>cond (decide (s.length <= 1099511627776)) (some (fe ((AR s).1%aJ))) none
  | _=>none
 enc:=eF
def B7:FA Fe:=H9.run
def fR (a:List Int):Bool:=Nat.beq a.length 32 && jE a
def vV {T:Type} (F:List Int->T):FA T
 | [.c (.s (.pl (.agg (.ints .u8 a) 32)))]=>cond (fR a) (some (F a)) none
 | _=>none
abbrev DJ:Nat:=57896044618658097711785492504343953926634992332820282019728792003956564819968
def rR (a:List Int):Fe:=fe (vB a%57896044618658097711785492504343953926634992332820282019728792003956564819968%aJ)
def S8:Summ:={ T:=Fe,run:=vV rR,enc:=eF }
def MT:FA Fe:=S8.run
def Es (a:List Int):Fe × Int:=cond (Nat.blt (vB a) aJ) (fe (vB a),0) (f0,7)
def Gx:Summ:={ T:=Fe × Int,run:=vV Es,enc:=λ t=>.tup [.s (.pl (.agg (.ints .u64 [(t.1.a:Int),(t.1.b:Int),(t.1.c:Int),(t.1.d:Int),(t.1.e:Int)]) 5)),.s (.pl (.int .i64 t.2))] }
def MU:FA (Fe × Int):=Gx.run
def iF:Fe:=fe 19681161376707505956807079304988542015446066515923890162744021073123829784752
def sFI:Summ where
 T:=Unit
 run:=λ
  | []=>some ()
  | _=>none
 enc:=λ _=>eF iF
def rFI:FA Unit:=sFI.run
def dO (u v:Fe):Fe:=aO (aO u (aO (aO v v) v)) (Kr (aO u (aO (aO (aO (aO v v) v) (aO (aO v v) v)) v)))
def mE (u v:Fe):Fe × Bool :=
 (vU (cond (kJ (aO v (aO (dO u v) (dO u v))) (cJ f0 u) || kJ (aO v (aO (dO u v) (dO u v))) (aO (cJ f0 u) iF)) (aO (dO u v) iF) (dO u v)),
  kJ (aO v (aO (dO u v) (dO u v))) u || kJ (aO v (aO (dO u v) (dO u v))) (cJ f0 u))
def Pv:Summ:={ T:=Fe × Bool,run:=DI mE,enc:=λ t=>.tup [.s (.pl (.agg (.ints .u64 [(t.1.a:Int),(t.1.b:Int),(t.1.c:Int),(t.1.d:Int),(t.1.e:Int)]) 5)),.s (.pl (.bool t.2))] }
def Kt:FA (Fe × Bool):=Pv.run
def aBJ:Summ where
 T:=Nat
 run:=λ
  | [.c (.s (.pl (.str s)))]=>cond (decide (s.length <= 65536)) (some (cond (wP s) (tS 0 s) 0)) none
  | _=>none
 enc:=eN
def Vg:FA Nat:=aBJ.run
def sRP:Summ where
 T:=Nat
 run:=λ
  | []=>some aJ
  | _=>none
 enc:=eN
def rRP:FA Nat:=sRP.run
def mF {T:Type} (F:Nat->T) (C:Nat->Bool):FA T
 | [.c (.s (.dat (.ints .i64 a) n 1))]=>cond (Lm a n && C (vB a)) (some (F (vB a))) none
 | _=>none
abbrev lG:Nat:=13407807929942597099574024998205846127479365820592393377723561443721764030073546976801874298166903427690031858186486050853753882811946569946433649006084096
def aIt:Summ:={ T:=Nat,run:=mF (λ x=>x%aJ) λ x=>Nat.blt x lG,enc:=eN }
def aBK:FA Nat:=aIt.run
def aQL:Summ:={ T:=List Int,run:=Ln λ x=>lo 32 x,enc:=lR }
def aIu:FA (List Int):=aQL.run
def bP (x:Nat):Bool:=Nat.blt x aJ
def aBL:Summ:={ T:=Nat,run:=zA (λ a b=>(a+b)%aJ) λ a b=>bP a && bP b,enc:=eN }
def F7:FA Nat:=aBL.run
def aBM:Summ:={ T:=Nat,run:=zA (λ a b=>(a+aJ - b)%aJ) λ a b=>bP a && bP b,enc:=eN }
def yY:FA Nat:=aBM.run
def aBN:Summ:={ T:=Nat,run:=zA (λ a b=>a*b%aJ) λ a b=>bP a && bP b,enc:=eN }
def oN:FA Nat:=aBN.run
def aBO:Summ:={ T:=Bool,run:=Ln λ a=>Nat.beq (a%2) 1,enc:=λ t=>.bool t }
def F8:FA Bool:=aBO.run
def oW (a:Nat):Nat:=cond (Nat.beq (a%2) 1) ((0+aJ - a)%aJ) a
def Vh:Summ:={ T:=Nat,run:=mF oW bP,enc:=eN }
def DK:FA Nat:=Vh.run
def aBP:Summ:={ T:=Nat,run:=zA (λ a e=>a ^ e%aJ) λ a _=>bP a,enc:=eN }
def Pw:FA Nat:=aBP.run
def Vi:Summ:={ T:=Nat,run:=mF (λ a=>a ^ (aJ - 2)%aJ) bP,enc:=eN }
def Ku:FA Nat:=Vi.run
abbrev iN:Nat:=19681161376707505956807079304988542015446066515923890162744021073123829784752
def sRI:Summ where
 T:=Nat
 run:=λ
  | []=>some iN
  | _=>none
 enc:=eN
def rRI:FA Nat:=sRI.run
def yZ (a:Nat):Nat × Bool :=
 if a ^ ((aJ+3) / 8)%aJ*(a ^ ((aJ+3) / 8)%aJ)%aJ=a then (oW (a ^ ((aJ+3) / 8)%aJ),true)
 else (oW (a ^ ((aJ+3) / 8)%aJ*iN%aJ),decide (a ^ ((aJ+3) / 8)%aJ*iN%aJ*(a ^ ((aJ+3) / 8)%aJ*iN%aJ)%aJ=a))
def eNB (t:Nat × Bool):AV:=.tup [.s (.dat (.ints .i64 (nb t.1)) (nb t.1).length 1),.s (.pl (.bool t.2))]
def MV:Summ:={ T:=Nat × Bool,run:=mF yZ bP,enc:=eNB }
def IA:FA (Nat × Bool):=MV.run
def Bi (u v:Nat):Nat × Bool :=
 if u=0 then (0,true) else if v=0 then (0,false) else
 if (yZ (u*(v ^ (aJ - 2)%aJ)%aJ)).2=true then ((yZ (u*(v ^ (aJ - 2)%aJ)%aJ)).1,true) else ((yZ (iN*(u*(v ^ (aJ - 2)%aJ)%aJ)%aJ)).1,false)
def aBQ:Summ:={ T:=Nat × Bool,run:=zA Bi λ a b=>bP a && bP b,enc:=eNB }
def IB:FA (Nat × Bool):=aBQ.run
section
variable (T0:Type) (R0:FA T0) (aG aM:T0->Int) (T1:Type) (R1:FA T1) (aN bI:T1->Int)
def aNW:Cg:=⟨⟨dD [(160,⟨R0,λ t=>AV.tup [.s (.pl (.int .u64 (aG t))),.s (.pl (.int .u64 (aM t)))]⟩),(136,⟨R1,λ t=>AV.tup [.s (.pl (.int .u64 (aN t))),.s (.pl (.int .u64 (bI t)))]⟩)],[],dS⟩,[]⟩
theorem aQM (fu:Nat) (p0 p1 x y:Int):bB prog Tryz.f126 (aNW T0 R0 aG aM T1 R1 aN bI) fu [aU [p0,p1] 2,.int .u64 x,.int .u64 y]=(R0 [.int .u64 x,.int .u64 y]).bind λ t=>(R1 [.int .u64 p1,.int .u64 (aM t),.int .u64 0]).bind λ dH=>some (AV.agg (.ints .u64 ([u64.wrap (u64.wrap (p0+aG t)+bI dH)]++[aN dH])) 2):=by kernel_rfl
end
def aNX:Cg:=⟨⟨dD [],[],dS⟩,[]⟩
theorem aQN (fu:Nat) (p0 p1:Int):bB prog Tryz.f127 aNX fu [aU [p0,p1] 2]=some (AV.tup [.s (.pl (.int .u64 (d8 .u64 p1 2251799813685247))),.s (.pl (.int .u64 (Dx .u64 (j8 .u64 p0 13) (eK .u64 p1 51))))]):=by kernel_rfl
def aNY:Cg:=⟨⟨dD [],[],dS⟩,[]⟩
theorem aQO (fu:Nat) (n:Int):bB prog Tryz.f79 aNY fu [.int .u64 n]=some (aU [d8 .u64 n 2251799813685247,eK .u64 n 51,0,0,0] 5):=by kernel_rfl
def aNZ:Cg:=⟨⟨dD [],[],dS⟩,[(4,[1,2,3,8,9],[1,2,3]),(1000004,[6],[]),(9,[1,2,3,18],[1,2,3]),(1000009,[6],[])]⟩
theorem aQP (fu:Nat) (a b c d e:Int):bB prog Tryz.f125 aNZ fu [aU [a,b,c,d,e] 5]=some (aU [u64.wrap (d8 .u64 a 2251799813685247+u64.wrap (eK .u64 e 51*19)),u64.wrap (d8 .u64 b 2251799813685247+eK .u64 a 51),u64.wrap (d8 .u64 c 2251799813685247+eK .u64 b 51),u64.wrap (d8 .u64 d 2251799813685247+eK .u64 c 51),u64.wrap (d8 .u64 e 2251799813685247+eK .u64 d 51)] 5):=by kernel_rfl
section
variable (T0:Type) (R0:FA T0) (aG aM cB cE cR:T0->Int)
def rJ:Cg:=⟨⟨dD [(125,⟨R0,λ t=>aU [(aG t),(aM t),(cB t),(cE t),(cR t)] 5⟩)],[],dS⟩,[(5,[1,2,3,4],[1,2,3]),(10,[1,2,33],[1,2])]⟩
def u5 (v3 v4:Int) (aQ bA:List Int):St:={ tm:=[(1,.s (.ptr 0 0 5)),(2,.s (.ptr 1 0 5)),(3,.int .u64 v3),(4,.int .i64 v4)],hp:=[(0,{ ty:=73,n:=5,row:=Row.t (.ints .u64 aQ) }),(1,{ ty:=73,n:=5,row:=Row.t (.ints .u64 bA) })],nx:=2,sz:=64 }
def CS:Code:=cM (bN [1,1,1,0,1,2] (bD Tryz.f130))
def aBR (fu:Nat):=lO prog (rJ T0 R0 aG aM cB cE cR) fu [1,1,1,0,1,2] (bD Tryz.f130) (fQ prog Tryz.f130)
abbrev aQQ (fu:Nat) (v3 v4:Int) (aQ bA:List Int):=eS prog (rJ T0 R0 aG aM cB cE cR) fu CS (aBR T0 R0 aG aM cB cE cR fu ) fu (some (u5 v3 v4 aQ bA))
theorem aQR (fu:Nat) (a b c d e:Int):bB prog Tryz.f130 (rJ T0 R0 aG aM cB cE cR) fu [aU [a,b,c,d,e] 5]=(R0 [aU [a,b,c,d,e] 5]).bind λ t=>(R0 [aU [aG t,aM t,cB t,cE t,cR t] 5]).bind λ t=>aQQ T0 R0 aG aM cB cE cR fu (eK .u64 (u64.wrap (aG t+19)) 51) 1 [aG t,aM t,cB t,cE t,cR t] [0,0,0,0,0]:=by kernel_rfl
def Px (v3:Int) (aQ bA:List Int):St:={ tm:=[(1,.s (.ptr 0 0 5)),(2,.s (.ptr 1 0 5)),(3,.int .u64 v3)],hp:=[(0,{ ty:=73,n:=5,row:=Row.t (.ints .u64 aQ) }),(1,{ ty:=73,n:=5,row:=Row.t (.ints .u64 bA) })],nx:=2,sz:=64 }
def u6 (v33:Int) (aQ bA:List Int):St:={ tm:=[(1,.s (.ptr 0 0 5)),(2,.s (.ptr 1 0 5)),(33,.int .i64 v33)],hp:=[(0,{ ty:=73,n:=5,row:=Row.t (.ints .u64 aQ) }),(1,{ ty:=73,n:=5,row:=Row.t (.ints .u64 bA) })],nx:=2,sz:=64 }
def Et:Code:=cM (bN [1,1,1,1,1,0,1,2] (bD Tryz.f130))
def aBS (fu:Nat):=lO prog (rJ T0 R0 aG aM cB cE cR) fu [1,1,1,1,1,0,1,2] (bD Tryz.f130) (fQ prog Tryz.f130)
def Py (aQ bA:List Int):St:={ tm:=[(1,.s (.ptr 0 0 5)),(2,.s (.ptr 1 0 5))],hp:=[(0,{ ty:=73,n:=5,row:=Row.t (.ints .u64 aQ) }),(1,{ ty:=73,n:=5,row:=Row.t (.ints .u64 bA) })],nx:=2,sz:=64 }
end
section
variable (T0:Type) (R0:FA T0) (aG aM cB cE cR:T0->Int)
def aN0:Cg:=⟨⟨dD [(125,⟨R0,λ t=>aU [(aG t),(aM t),(cB t),(cE t),(cR t)] 5⟩)],[],dS⟩,[(3,[2,3,4,6],[2,4]),(1000003,[6],[])]⟩
theorem aQS (fu:Nat) (a b c d e f g h i j:Int):bB prog Tryz.f75 (aN0 T0 R0 aG aM cB cE cR) fu [aU [a,b,c,d,e] 5,aU [f,g,h,i,j] 5]=(R0 [aU [u64.wrap (a+f),u64.wrap (b+g),u64.wrap (c+h),u64.wrap (d+i),u64.wrap (e+j)] 5]).bind λ t=>some (aU [aG t,aM t,cB t,cE t,cR t] 5):=by kernel_rfl
end
section
variable (T0:Type) (R0:FA T0) (aG aM cB cE cR:T0->Int)
def aN1:Cg:=⟨⟨dD [(125,⟨R0,λ t=>aU [(aG t),(aM t),(cB t),(cE t),(cR t)] 5⟩)],[],dS⟩,[(3,[2,3,4,7],[2,4]),(1000003,[6],[])]⟩
theorem aQT (fu:Nat) (a b c d e f g h i j:Int):bB prog Tryz.f77 (aN1 T0 R0 aG aM cB cE cR) fu [aU [a,b,c,d,e] 5,aU [f,g,h,i,j] 5]=(R0 [aU [u64.wrap (a+u64.wrap (4503599627370458 - f)),u64.wrap (b+u64.wrap (4503599627370494 - g)),u64.wrap (c+u64.wrap (4503599627370494 - h)),u64.wrap (d+u64.wrap (4503599627370494 - i)),u64.wrap (e+u64.wrap (4503599627370494 - j))] 5]).bind λ t=>some (aU [aG t,aM t,cB t,cE t,cR t] 5):=by kernel_rfl
end
section
variable (T0:Type) (R0:FA T0) (aG aM cB cE cR:T0->Int)
def aN2:Cg:=⟨⟨dD [(77,⟨R0,λ t=>aU [(aG t),(aM t),(cB t),(cE t),(cR t)] 5⟩)],[],dS⟩,[]⟩
theorem aQU (fu:Nat) (a b c d e:Int):bB prog Tryz.f84 (aN2 T0 R0 aG aM cB cE cR) fu [aU [a,b,c,d,e] 5]=(R0 [aU [0,0,0,0,0] 5,aU [a,b,c,d,e] 5]).bind λ t=>some (aU [aG t,aM t,cB t,cE t,cR t] 5):=by kernel_rfl
end
section
variable (T0:Type) (R0:FA T0) (aG aM:T0->Int) (T1:Type) (R1:FA T1) (aN bI:T1->Int) (T2:Type) (R2:FA T2) (bC bW dW eT eX:T2->Int)
def cW:Cg:=⟨⟨dD [(126,⟨R0,λ t=>aU [(aG t),(aM t)] 2⟩),(127,⟨R1,λ t=>AV.tup [.s (.pl (.int .u64 (aN t))),.s (.pl (.int .u64 (bI t)))]⟩),(125,⟨R2,λ t=>aU [(bC t),(bW t),(dW t),(eT t),(eX t)] 5⟩)],[],dS⟩,[(4,[3,4,5,17,18],[4,5]),(7,[3,4,5,6,7,17,18,23,24],[3,4,5,17,18]),(17,[4,10,11,50,51],[4,10,11]),(1000017,[6],[]),(22,[4,10,66,67],[4,10])]⟩
def qL (x17:List Int) (xA:Int) (aQ bA cT:List Int):St:={ tm:=[(3,.s (.ptr 0 0 5)),(4,.s (.ptr 1 0 5)),(5,.s (.ptr 2 0 10)),(17,.agg (.ints .u64 x17) 5),(18,.int .i64 xA)],hp:=[(0,{ ty:=73,n:=5,row:=Row.t (.ints .u64 aQ) }),(1,{ ty:=73,n:=5,row:=Row.t (.ints .u64 bA) }),(2,{ ty:=162,n:=10,row:=Row.t (.ints .u64 cT) })],nx:=3,sz:=89 }
def u7:Code:=cM (bN [1,1,0,1,2] (bD Tryz.f76))
def aBT (fu:Nat):=lO prog (cW T0 R0 aG aM T1 R1 aN bI T2 R2 bC bW dW eT eX) fu [1,1,0,1,2] (bD Tryz.f76) (fQ prog Tryz.f76)
abbrev aQV (fu:Nat) (x17:List Int) (xA:Int) (aQ bA cT:List Int):=eS prog (cW T0 R0 aG aM T1 R1 aN bI T2 R2 bC bW dW eT eX) fu u7 (aBT T0 R0 aG aM T1 R1 aN bI T2 R2 bC bW dW eT eX fu ) fu (some (qL x17 xA aQ bA cT))
theorem aQW (fu:Nat) (a b c d e f g h i j:Int):bB prog Tryz.f76 (cW T0 R0 aG aM T1 R1 aN bI T2 R2 bC bW dW eT eX) fu [aU [a,b,c,d,e] 5,aU [f,g,h,i,j] 5]=aQV T0 R0 aG aM T1 R1 aN bI T2 R2 bC bW dW eT eX fu [a,b,c,d,e] 0 [f,g,h,i,j] [0,0,0,0,0] [0,0,0,0,0,0,0,0,0,0]:=by kernel_rfl
def bX (v6 v7:Int) (x17:List Int) (xA:Int) (x23:List Int) (Si:Int) (aQ bA cT:List Int):St:={ tm:=[(3,.s (.ptr 0 0 5)),(4,.s (.ptr 1 0 5)),(5,.s (.ptr 2 0 10)),(6,.int .i64 v6),(7,.int .u64 v7),(17,.agg (.ints .u64 x17) 5),(18,.int .i64 xA),(23,.agg (.ints .u64 x23) 5),(24,.int .i64 Si)],hp:=[(0,{ ty:=73,n:=5,row:=Row.t (.ints .u64 aQ) }),(1,{ ty:=73,n:=5,row:=Row.t (.ints .u64 bA) }),(2,{ ty:=162,n:=10,row:=Row.t (.ints .u64 cT) })],nx:=3,sz:=89 }
def dR:Code:=cM (bN [1,1,0,1,2,6,1,1,0,2,1,1,2] (bD Tryz.f76))
def u9 {β:Type} (fu:Nat) (G:FG β) (H:FH β):=lO prog (cW T0 R0 aG aM T1 R1 aN bI T2 R2 bC bW dW eT eX) fu [1,1,0,2,1,1,2] u7 (uZ (cW T0 R0 aG aM T1 R1 aN bI T2 R2 bC bW dW eT eX) u7 G H)
def Pz (aQ bA:List Int):St:={ tm:=[(4,.s (.ptr 0 0 5)),(5,.s (.ptr 1 0 10))],hp:=[(0,{ ty:=73,n:=5,row:=Row.t (.ints .u64 aQ) }),(1,{ ty:=162,n:=10,row:=Row.t (.ints .u64 bA) })],nx:=2,sz:=89 }
def lS (x17:List Int) (xA:Int) (aQ bA cT:List Int):St:={ tm:=[(3,.s (.ptr 0 0 5)),(4,.s (.ptr 1 0 5)),(5,.s (.ptr 2 0 10)),(17,.agg (.ints .u64 x17) 5),(18,.int .i64 xA)],hp:=[(0,{ ty:=73,n:=5,row:=Row.t (.ints .u64 aQ) }),(1,{ ty:=73,n:=5,row:=Row.t (.ints .u64 bA) }),(2,{ ty:=162,n:=10,row:=Row.t (.ints .u64 cT) })],nx:=3,sz:=89 }
def qM (x66:List Int) (v67:Int) (aQ bA:List Int):St:={ tm:=[(4,.s (.ptr 0 0 5)),(10,.s (.ptr 1 0 5)),(66,.agg (.ints .u64 x66) 5),(67,.int .i64 v67)],hp:=[(0,{ ty:=73,n:=5,row:=Row.t (.ints .u64 aQ) }),(1,{ ty:=73,n:=5,row:=Row.t (.ints .u64 bA) })],nx:=2,sz:=89 }
def CT:Code:=cM (bN [1,1,1,1,1,1,0,1,2] (bD Tryz.f76))
def aBU (fu:Nat):=lO prog (cW T0 R0 aG aM T1 R1 aN bI T2 R2 bC bW dW eT eX) fu [1,1,1,1,1,1,0,1,2] (bD Tryz.f76) (fQ prog Tryz.f76)
def P1 (aQ bA:List Int):St:={ tm:=[(4,.s (.ptr 0 0 5)),(10,.s (.ptr 1 0 5))],hp:=[(0,{ ty:=73,n:=5,row:=Row.t (.ints .u64 aQ) }),(1,{ ty:=73,n:=5,row:=Row.t (.ints .u64 bA) })],nx:=2,sz:=89 }
theorem aBV (fu:Nat) (aQ bA:List Int):aBU T0 R0 aG aM T1 R1 aN bI T2 R2 bC bW dW eT eX fu  (Ex.exit 6) (P1 aQ bA)=(R2 [.agg (.ints .u64 bA) 5]).bind λ t=>some (aU [bC t,bW t,dW t,eT t,eX t] 5):=by kernel_rfl
end
section
variable (T0:Type) (R0:FA T0) (aG aM cB cE cR:T0->Int)
def aN3:Cg:=⟨⟨dD [(76,⟨R0,λ t=>aU [(aG t),(aM t),(cB t),(cE t),(cR t)] 5⟩)],[],dS⟩,[]⟩
theorem aQX (fu:Nat) (a b c d e:Int):bB prog Tryz.f80 (aN3 T0 R0 aG aM cB cE cR) fu [aU [a,b,c,d,e] 5]=(R0 [aU [a,b,c,d,e] 5,aU [a,b,c,d,e] 5]).bind λ t=>some (aU [aG t,aM t,cB t,cE t,cR t] 5):=by kernel_rfl
end
section
variable (T0:Type) (R0:FA T0) (aG aM cB cE cR:T0->Int) (T1:Type) (R1:FA T1) (aN bI gV gW iL:T1->Int) (T2:Type) (R2:FA T2) (bC bW dW eT eX:T2->Int)
def P2:Cg:=⟨⟨dD [(79,⟨R0,λ t=>aU [(aG t),(aM t),(cB t),(cE t),(cR t)] 5⟩),(80,⟨R1,λ t=>aU [(aN t),(bI t),(gV t),(gW t),(iL t)] 5⟩),(76,⟨R2,λ t=>aU [(bC t),(bW t),(dW t),(eT t),(eX t)] 5⟩)],[],dS⟩,[(5,[3,6,7,8,9],[6,7])]⟩
def Eu (v8 v9:Int) (aQ bA cT:List Int):St:={ tm:=[(3,.s (.ptr 0 0 5)),(6,.s (.ptr 1 0 5)),(7,.s (.ptr 2 0 5)),(8,.int .u64 v8),(9,.int .i64 v9)],hp:=[(0,{ ty:=73,n:=5,row:=Row.t (.ints .u64 aQ) }),(1,{ ty:=73,n:=5,row:=Row.t (.ints .u64 bA) }),(2,{ ty:=73,n:=5,row:=Row.t (.ints .u64 cT) })],nx:=3,sz:=34 }
def S9:Code:=cM (bN [1,1,1,0,1,2] (bD Tryz.f161))
def TA (fu:Nat):=lO prog (P2 T0 R0 aG aM cB cE cR T1 R1 aN bI gV gW iL T2 R2 bC bW dW eT eX) fu [1,1,1,0,1,2] (bD Tryz.f161) (fQ prog Tryz.f161)
abbrev aQY (fu:Nat) (v8 v9:Int) (aQ bA cT:List Int):=eS prog (P2 T0 R0 aG aM cB cE cR T1 R1 aN bI gV gW iL T2 R2 bC bW dW eT eX) fu S9 (TA T0 R0 aG aM cB cE cR T1 R1 aN bI gV gW iL T2 R2 bC bW dW eT eX fu ) fu (some (Eu v8 v9 aQ bA cT))
theorem aQZ (fu:Nat) (a b c d e n l:Int):bB prog Tryz.f161 (P2 T0 R0 aG aM cB cE cR T1 R1 aN bI gV gW iL T2 R2 bC bW dW eT eX) fu [aU [a,b,c,d,e] 5,.int .i64 n,.int .u64 l]=(R0 [.int .u64 1]).bind λ t=>aQY T0 R0 aG aM cB cE cR T1 R1 aN bI gV gW iL T2 R2 bC bW dW eT eX fu (u64.wrap (256 - l)) (i64.wrap (n - 1)) [a,b,c,d,e] [0,0,0,0,0] [aG t,aM t,cB t,cE t,cR t]:=by kernel_rfl
def P3 (aQ bA:List Int):St:={ tm:=[(6,.s (.ptr 0 0 5)),(7,.s (.ptr 1 0 5))],hp:=[(0,{ ty:=73,n:=5,row:=Row.t (.ints .u64 aQ) }),(1,{ ty:=73,n:=5,row:=Row.t (.ints .u64 bA) })],nx:=2,sz:=34 }
theorem aBW {β:Type} (fu:Nat) (G:FG β) (H:FH β) (v8 v9:Int) (aQ bA cT:List Int):fI prog (P2 T0 R0 aG aM cB cE cR T1 R1 aN bI gV gW iL T2 R2 bC bW dW eT eX) fu S9 G H (Eu v8 v9 aQ bA cT)=bif decide (0 <= v9) then (R1 [.agg (.ints .u64 cT) 5]).bind λ t=>bif decide (8 <= v9) then (R2 [aU [aN t,bI t,gV t,gW t,iL t] 5,.agg (.ints .u64 aQ) 5]).bind λ t=>G (some (Eu v8 (i64.wrap (v9 - 1)) aQ bA [bC t,bW t,dW t,eT t,eX t])) else bif decide (v9 < 0) then none else bif decide (d8 .u64 (eK .u64 v8 v9) (1:Int)=1) then (R2 [aU [aN t,bI t,gV t,gW t,iL t] 5,.agg (.ints .u64 aQ) 5]).bind λ t=>G (some (Eu v8 (i64.wrap (v9 - 1)) aQ bA [bC t,bW t,dW t,eT t,eX t])) else G (some (Eu v8 (i64.wrap (v9 - 1)) aQ bA [aN t,bI t,gV t,gW t,iL t])) else H (Ex.exit 0) (some (P3 bA cT)):=by kernel_rfl
theorem aBX (fu:Nat) (aQ bA:List Int):TA T0 R0 aG aM cB cE cR T1 R1 aN bI gV gW iL T2 R2 bC bW dW eT eX fu  (Ex.exit 0) (P3 aQ bA)=some (AV.agg (.ints .u64 bA) 5):=by kernel_rfl
end
section
variable (T0:Type) (R0:FA T0) (aG aM cB cE cR:T0->Int)
end
section
variable (T0:Type) (R0:FA T0) (aG aM cB cE cR:T0->Int)
def aN4:Cg:=⟨⟨dD [(161,⟨R0,λ t=>aU [(aG t),(aM t),(cB t),(cE t),(cR t)] 5⟩)],[],dS⟩,[]⟩
theorem aQ0 (fu:Nat) (a b c d e:Int):bB prog Tryz.f128 (aN4 T0 R0 aG aM cB cE cR) fu [aU [a,b,c,d,e] 5]=(R0 [aU [a,b,c,d,e] 5,.int .i64 252,.int .u64 3]).bind λ t=>some (aU [aG t,aM t,cB t,cE t,cR t] 5):=by kernel_rfl
end
section
variable (T0:Type) (R0:FA T0) (aG aM cB cE cR:T0->Int)
def aN5:Cg:=⟨⟨dD [(130,⟨R0,λ t=>aU [(aG t),(aM t),(cB t),(cE t),(cR t)] 5⟩)],[],dS⟩,[]⟩
theorem aQ1 (fu:Nat) (a b c d e:Int):bB prog Tryz.f81 (aN5 T0 R0 aG aM cB cE cR) fu [aU [a,b,c,d,e] 5]=(R0 [aU [a,b,c,d,e] 5]).bind λ t=>some (AV.bool (decide (d8 .u64 (aG t) (1:Int)=1))):=by kernel_rfl
end
section
variable (T0:Type) (R0:FA T0) (aG aM cB cE cR:T0->Int)
def aN6:Cg:=⟨⟨dD [(130,⟨R0,λ t=>aU [(aG t),(aM t),(cB t),(cE t),(cR t)] 5⟩)],[],dS⟩,[]⟩
theorem aQ2 (fu:Nat) (a b c d e:Int):bB prog Tryz.f119 (aN6 T0 R0 aG aM cB cE cR) fu [aU [a,b,c,d,e] 5]=(R0 [aU [a,b,c,d,e] 5]).bind λ t=>some (AV.bool (decide ([aG t,aM t,cB t,cE t,cR t]=[0,0,0,0,0]))):=by kernel_rfl
end
section
variable (T0:Type) (R0:FA T0) (aG aM cB cE cR:T0->Int)
def aN7:Cg:=⟨⟨dD [(130,⟨R0,λ t=>aU [(aG t),(aM t),(cB t),(cE t),(cR t)] 5⟩)],[],dS⟩,[]⟩
theorem aQ3 (fu:Nat) (a b c d e f g h i j:Int):bB prog Tryz.f129 (aN7 T0 R0 aG aM cB cE cR) fu [aU [a,b,c,d,e] 5,aU [f,g,h,i,j] 5]=(R0 [aU [a,b,c,d,e] 5]).bind λ t=>(R0 [aU [f,g,h,i,j] 5]).bind λ dH=>some (AV.bool (decide ([aG t,aM t,cB t,cE t,cR t]=[aG dH,aM dH,cB dH,cE dH,cR dH]))):=by kernel_rfl
end
section
variable (T0:Type) (R0:FA T0) (aG:T0->Bool) (T1:Type) (R1:FA T1) (aN bI gV gW iL:T1->Int)
def aN8:Cg:=⟨⟨dD [(81,⟨R0,λ t=>AV.bool (aG t)⟩),(84,⟨R1,λ t=>aU [(aN t),(bI t),(gV t),(gW t),(iL t)] 5⟩)],[],dS⟩,[]⟩
theorem aQ4 (fu:Nat) (a b c d e:Int):bB prog Tryz.f85 (aN8 T0 R0 aG T1 R1 aN bI gV gW iL) fu [aU [a,b,c,d,e] 5]=(R0 [aU [a,b,c,d,e] 5]).bind λ t=>bif aG t then (R1 [aU [a,b,c,d,e] 5]).bind λ t=>some (aU [aN t,bI t,gV t,gW t,iL t] 5) else some (aU [a,b,c,d,e] 5):=by kernel_rfl
end
section
variable (T0:Type) (R0:FA T0) (aG aM cB cE cR:T0->Int)
def DL:Cg:=⟨⟨dD [(130,⟨R0,λ t=>aU [(aG t),(aM t),(cB t),(cE t),(cR t)] 5⟩)],[],dS⟩,[(4,[2,3,10,11],[2,3]),(7,[2,3,4,5,10,11,15],[2,3,10,11])]⟩
def IC (x10:List Int) (gE:Int) (aQ bA:List Int):St:={ tm:=[(2,.s (.ptr 0 0 32)),(3,.s (.ptr 1 0 32)),(10,.agg (.ints .u64 x10) 5),(11,.int .i64 gE)],hp:=[(0,{ ty:=23,n:=32,row:=Row.t (.ints .u8 aQ) }),(1,{ ty:=23,n:=32,row:=Row.t (.ints .u8 bA) })],nx:=2,sz:=39 }
def Ev:Code:=cM (bN [1,1,0,1,2] (bD Tryz.f86))
def ID (fu:Nat):=lO prog (DL T0 R0 aG aM cB cE cR) fu [1,1,0,1,2] (bD Tryz.f86) (fQ prog Tryz.f86)
abbrev aQ5 (fu:Nat) (x10:List Int) (gE:Int) (aQ bA:List Int):=eS prog (DL T0 R0 aG aM cB cE cR) fu Ev (ID T0 R0 aG aM cB cE cR fu ) fu (some (IC x10 gE aQ bA))
theorem aQ6 (fu:Nat) (a b c d e:Int):bB prog Tryz.f86 (DL T0 R0 aG aM cB cE cR) fu [aU [a,b,c,d,e] 5]=(R0 [aU [a,b,c,d,e] 5]).bind λ t=>aQ5 T0 R0 aG aM cB cE cR fu [aG t,aM t,cB t,cE t,cR t] 0 [0,0,0,0,0,0,0,0,0,0,0,0,0,0,0,0,0,0,0,0,0,0,0,0,0,0,0,0,0,0,0,0] [0,0,0,0,0,0,0,0,0,0,0,0,0,0,0,0,0,0,0,0,0,0,0,0,0,0,0,0,0,0,0,0]:=by kernel_rfl
def MW (v4 v5:Int) (x10:List Int) (gE lW:Int) (aQ bA:List Int):St:={ tm:=[(2,.s (.ptr 0 0 32)),(3,.s (.ptr 1 0 32)),(4,.int .i64 v4),(5,.int .u64 v5),(10,.agg (.ints .u64 x10) 5),(11,.int .i64 gE),(15,.int .i64 lW)],hp:=[(0,{ ty:=23,n:=32,row:=Row.t (.ints .u8 aQ) }),(1,{ ty:=23,n:=32,row:=Row.t (.ints .u8 bA) })],nx:=2,sz:=39 }
def TB:Code:=cM (bN [1,1,0,1,2,6,1,1,0,2,1,1,2] (bD Tryz.f86))
def TC {β:Type} (fu:Nat) (G:FG β) (H:FH β):=lO prog (DL T0 R0 aG aM cB cE cR) fu [1,1,0,2,1,1,2] Ev (uZ (DL T0 R0 aG aM cB cE cR) Ev G H)
abbrev aQ7 {β:Type} (fu:Nat) (G:FG β) (H:FH β) (v4 v5:Int) (x10:List Int) (gE lW:Int) (aQ bA:List Int):=eS prog (DL T0 R0 aG aM cB cE cR) fu TB (TC T0 R0 aG aM cB cE cR fu G H) fu (some (MW v4 v5 x10 gE lW aQ bA))
def P4 (aQ bA:List Int):St:={ tm:=[(2,.s (.ptr 0 0 32)),(3,.s (.ptr 1 0 32))],hp:=[(0,{ ty:=23,n:=32,row:=Row.t (.ints .u8 aQ) }),(1,{ ty:=23,n:=32,row:=Row.t (.ints .u8 bA) })],nx:=2,sz:=39 }
theorem aBY {β:Type} (fu:Nat) (G:FG β) (H:FH β) (x10:List Int) (gE:Int) (aQ bA:List Int):fI prog (DL T0 R0 aG aM cB cE cR) fu Ev G H (IC x10 gE aQ bA)=bif decide (gE < 5) then bif decide (0 <= gE /\ gE < 5) then aQ7 T0 R0 aG aM cB cE cR fu G H gE (x10.getD gE.toNat 0) x10 gE 0 aQ bA else none else H (Ex.exit 0) (some (P4 aQ bA)):=by kernel_rfl
def P5 (x10:List Int) (gE:Int) (aQ bA:List Int):St:={ tm:=[(2,.s (.ptr 0 0 32)),(3,.s (.ptr 1 0 32)),(10,.agg (.ints .u64 x10) 5),(11,.int .i64 gE)],hp:=[(0,{ ty:=23,n:=32,row:=Row.t (.ints .u8 aQ) }),(1,{ ty:=23,n:=32,row:=Row.t (.ints .u8 bA) })],nx:=2,sz:=39 }
theorem aBZ {β:Type} (fu:Nat) (G:FG β) (H:FH β) (v4 v5:Int) (x10:List Int) (gE lW:Int) (aQ bA:List Int):fI prog (DL T0 R0 aG aM cB cE cR) fu TB G H (MW v4 v5 x10 gE lW aQ bA)=bif decide (lW < 51) then bif decide (0 <= i64.wrap ((i64.wrap (i64.wrap (51*v4)+lW)).tdiv 8) /\ i64.wrap ((i64.wrap (i64.wrap (51*v4)+lW)).tdiv 8) < 32) then bif decide (lW < 0) then none else bif decide ((i64.wrap (i64.wrap (51*v4)+lW)).tmod (8:Int) < 0) then none else bif decide (0 <= i64.wrap ((i64.wrap (i64.wrap (51*v4)+lW)).tdiv 8) /\ i64.wrap ((i64.wrap (i64.wrap (51*v4)+lW)).tdiv 8) < 32) then G (some (MW v4 v5 x10 gE (i64.wrap (lW+1)) aQ (bA.set (0+(i64.wrap ((i64.wrap (i64.wrap (51*v4)+lW)).tdiv 8)).toNat) (Dx .u8 (bA.getD (0+(i64.wrap ((i64.wrap (i64.wrap (51*v4)+lW)).tdiv 8)).toNat) 0) (j8 .u8 (u8.wrap (d8 .u64 (eK .u64 v5 lW) 1)) ((i64.wrap (i64.wrap (51*v4)+lW)).tmod 8)))))) else none else none else H (Ex.exit 2) (some (P5 x10 gE aQ bA)):=by kernel_rfl
theorem aB0 (fu:Nat) (aQ bA:List Int):ID T0 R0 aG aM cB cE cR fu  (Ex.exit 0) (P4 aQ bA)=some (AV.agg (.ints .u8 bA) 32):=by kernel_rfl
theorem aB1 {β:Type} (fu:Nat) (G:FG β) (H:FH β) (x10:List Int) (gE:Int) (aQ bA:List Int):TC T0 R0 aG aM cB cE cR fu G H (Ex.exit 2) (P5 x10 gE aQ bA)=G (some (IC x10 (i64.wrap (gE+1)) aQ bA)):=by kernel_rfl
end
section
variable (T0:Type) (R0:FA T0) (aG:T0->List Int) (T1:Type) (R1:FA T1) (aN:T1->List Int) (T2:Type) (R2:FA T2) (bC:T2->List Int) (bW:T2->Bool) (T3:Type) (R3:FA T3) (bO cI:T3->List Int) (qG:T3->Int)
def B8:Cg:=⟨⟨dD [(105,⟨R0,λ t=>AV.agg (.ints .u64 (aG t)) 8⟩),(133,⟨R1,λ t=>AV.agg (.ints .u64 (aN t)) 8⟩),(92,⟨R2,λ t=>AV.tup [.s (.pl (.agg (.ints .u64 (bC t)) 8)),.s (.pl (.bool (bW t)))]⟩),(187,⟨R3,λ t=>AV.tup [.s (.pl (.agg (.ints .u64 (bO t)) 8)),.s (.pl (.agg (.ints .u64 (cI t)) 8)),.s (.pl (.int .i64 (qG t)))]⟩)],[],dS⟩,[(6,[1,2,5,21],[2,5])]⟩
def qN (v21:Int) (aQ bA cT:List Int):St:={ tm:=[(1,.s (.ptr 0 0 8)),(2,.s (.ptr 1 0 5)),(5,.s (.ptr 2 0 5)),(21,.int .i64 v21)],hp:=[(0,{ ty:=32,n:=8,row:=Row.t (.ints .u64 aQ) }),(1,{ ty:=73,n:=5,row:=Row.t (.ints .u64 bA) }),(2,{ ty:=73,n:=5,row:=Row.t (.ints .u64 cT) })],nx:=3,sz:=35 }
def zP:Code:=cM (bN [1,1,1,1,0,1,2] (bD Tryz.f162))
def aB2 (fu:Nat):=lO prog (B8 T0 R0 aG T1 R1 aN T2 R2 bC bW T3 R3 bO cI qG) fu [1,1,1,1,0,1,2] (bD Tryz.f162) (fQ prog Tryz.f162)
abbrev aQ8 (fu:Nat) (v21:Int) (aQ bA cT:List Int):=eS prog (B8 T0 R0 aG T1 R1 aN T2 R2 bC bW T3 R3 bO cI qG) fu zP (aB2 T0 R0 aG T1 R1 aN T2 R2 bC bW T3 R3 bO cI qG fu ) fu (some (qN v21 aQ bA cT))
theorem aQ9 (fu:Nat) (a:List Int):bB prog Tryz.f162 (B8 T0 R0 aG T1 R1 aN T2 R2 bC bW T3 R3 bO cI qG) fu [W8 a]=(R0 [.int .u64 1]).bind λ t=>(R1 [.agg (.ints .u64 (aG t)) 8,.int .i64 255]).bind λ t=>(R0 [.int .u64 19]).bind λ dH=>(R2 [.agg (.ints .u64 (aN t)) 8,.agg (.ints .u64 (aG dH)) 8]).bind λ t=>(R3 [.agg (.ints .u64 a) 8,.agg (.ints .u64 (bC t)) 8]).bind λ t=>aQ8 T0 R0 aG T1 R1 aN T2 R2 bC bW T3 R3 bO cI qG fu 0 (cI t) [0,0,0,0,0] [0,0,0,0,0]:=by kernel_rfl
def P6 (aQ bA:List Int):St:={ tm:=[(2,.s (.ptr 0 0 5)),(5,.s (.ptr 1 0 5))],hp:=[(0,{ ty:=73,n:=5,row:=Row.t (.ints .u64 aQ) }),(1,{ ty:=73,n:=5,row:=Row.t (.ints .u64 bA) })],nx:=2,sz:=35 }
theorem aB3 (fu:Nat) (aQ bA:List Int):aB2 T0 R0 aG T1 R1 aN T2 R2 bC bW T3 R3 bO cI qG fu  (Ex.exit 0) (P6 aQ bA)=some (AV.agg (.ints .u64 bA) 5):=by kernel_rfl
end
section
variable (T0:Type) (R0:FA T0) (aG:T0->List Int) (aM:T0->Int) (T1:Type) (R1:FA T1) (aN bI gV gW iL:T1->Int)
def aN9:Cg:=⟨⟨dD [(132,⟨R0,λ t=>AV.tup [.s (.pl (.agg (.ints .u64 (aG t)) 8)),.s (.pl (.int .i64 (aM t)))]⟩),(162,⟨R1,λ t=>aU [(aN t),(bI t),(gV t),(gW t),(iL t)] 5⟩)],[],dS⟩,[]⟩
theorem aRa (fu:Nat) (s:Str):bB prog Tryz.f131 (aN9 T0 R0 aG aM T1 R1 aN bI gV gW iL) fu [.str s]=(R0 [.str s]).bind λ t=>(R1 [.agg (.ints .u64 (aG t)) 8]).bind λ t=>some (aU [aN t,bI t,gV t,gW t,iL t] 5):=by kernel_rfl
end
section
variable (T0:Type) (R0:FA T0) (aG:T0->List Int) (aM:T0->Int) (T1:Type) (R1:FA T1) (aN bI gV gW iL:T1->Int)
def aOa:Cg:=⟨⟨dD [(38,⟨R0,λ t=>AV.tup [.s (.pl (.agg (.ints .u64 (aG t)) 8)),.s (.pl (.int .i64 (aM t)))]⟩),(162,⟨R1,λ t=>aU [(aN t),(bI t),(gV t),(gW t),(iL t)] 5⟩)],[],dS⟩,[]⟩
theorem aRb (fu:Nat) (a:List Int):bB prog Tryz.f157 (aOa T0 R0 aG aM T1 R1 aN bI gV gW iL) fu [.agg (.ints .u8 a) 32]=(R0 [.str (List.map b8 (List.take 32 (List.drop 0 (a.set 31 (d8 .u8 (a.getD 31 0) 127)))))]).bind λ t=>(R1 [.agg (.ints .u64 (aG t)) 8]).bind λ t=>some (aU [aN t,bI t,gV t,gW t,iL t] 5):=by kernel_rfl
end
section
variable (T0:Type) (R0:FA T0) (aG aM cB cE cR:T0->Int) (T1:Type) (R1:FA T1) (aN:T1->List Int)
def aOb:Cg:=⟨⟨dD [(157,⟨R0,λ t=>aU [(aG t),(aM t),(cB t),(cE t),(cR t)] 5⟩),(86,⟨R1,λ t=>AV.agg (.ints .u8 (aN t)) 32⟩)],[],dS⟩,[]⟩
theorem aRc (fu:Nat) (a:List Int):bB prog Tryz.f117 (aOb T0 R0 aG aM cB cE cR T1 R1 aN) fu [.agg (.ints .u8 a) 32]=(R0 [.agg (.ints .u8 a) 32]).bind λ t=>(R1 [aU [aG t,aM t,cB t,cE t,cR t] 5]).bind λ dH=>bif !decide (aN dH=a) then some (AV.tup [.s (.pl (.agg (.ints .u64 [0,0,0,0,0]) 5)),.s (.pl (.int .i64 7))]) else some (AV.tup [.s (.pl (.agg (.ints .u64 [aG t,aM t,cB t,cE t,cR t]) 5)),.s (.pl (.int .i64 0))]):=by kernel_rfl
end
section
variable (T0:Type) (R0:FA T0) (aG aM:T0->Int) (T1:Type) (R1:FA T1) (aN bI:T1->Int) (T2:Type) (R2:FA T2) (bC bW dW eT eX:T2->Int)
theorem aIv {β:Type} (fu:Nat) (G:FG β) (H:FH β) (v:Int) (xs zs ys:List Int) (f g h i j s0 s1 s2 s3 s4 s5 s6 s7 s8 s9:Int):fI prog (cW T0 R0 aG aM T1 R1 aN bI T2 R2 bC bW dW eT eX) fu dR G H (bX 0 v xs 0 [f,g,h,i,j] 0 zs ys [s0,s1,s2,s3,s4,s5,s6,s7,s8,s9]) =
 (R0 [AV.agg (TRow.ints u64 [s0,s1]) 2,AV.int u64 v,AV.int u64 f]).bind λ (t:T0)=>G (some (bX 0 v xs 0 [f,g,h,i,j] 1 zs ys [aG t,aM t,s2,s3,s4,s5,s6,s7,s8,s9])):=by kernel_rfl
theorem aIw {β:Type} (fu:Nat) (G:FG β) (H:FH β) (v:Int) (xs zs ys:List Int) (f g h i j s0 s1 s2 s3 s4 s5 s6 s7 s8 s9:Int):fI prog (cW T0 R0 aG aM T1 R1 aN bI T2 R2 bC bW dW eT eX) fu dR G H (bX 0 v xs 0 [f,g,h,i,j] 1 zs ys [s0,s1,s2,s3,s4,s5,s6,s7,s8,s9]) =
 (R0 [AV.agg (TRow.ints u64 [s2,s3]) 2,AV.int u64 v,AV.int u64 g]).bind λ (t:T0)=>G (some (bX 0 v xs 0 [f,g,h,i,j] 2 zs ys [s0,s1,aG t,aM t,s4,s5,s6,s7,s8,s9])):=by kernel_rfl
theorem aIx {β:Type} (fu:Nat) (G:FG β) (H:FH β) (v:Int) (xs zs ys:List Int) (f g h i j s0 s1 s2 s3 s4 s5 s6 s7 s8 s9:Int):fI prog (cW T0 R0 aG aM T1 R1 aN bI T2 R2 bC bW dW eT eX) fu dR G H (bX 0 v xs 0 [f,g,h,i,j] 2 zs ys [s0,s1,s2,s3,s4,s5,s6,s7,s8,s9]) =
 (R0 [AV.agg (TRow.ints u64 [s4,s5]) 2,AV.int u64 v,AV.int u64 h]).bind λ (t:T0)=>G (some (bX 0 v xs 0 [f,g,h,i,j] 3 zs ys [s0,s1,s2,s3,aG t,aM t,s6,s7,s8,s9])):=by kernel_rfl
theorem aIy {β:Type} (fu:Nat) (G:FG β) (H:FH β) (v:Int) (xs zs ys:List Int) (f g h i j s0 s1 s2 s3 s4 s5 s6 s7 s8 s9:Int):fI prog (cW T0 R0 aG aM T1 R1 aN bI T2 R2 bC bW dW eT eX) fu dR G H (bX 0 v xs 0 [f,g,h,i,j] 3 zs ys [s0,s1,s2,s3,s4,s5,s6,s7,s8,s9]) =
 (R0 [AV.agg (TRow.ints u64 [s6,s7]) 2,AV.int u64 v,AV.int u64 i]).bind λ (t:T0)=>G (some (bX 0 v xs 0 [f,g,h,i,j] 4 zs ys [s0,s1,s2,s3,s4,s5,aG t,aM t,s8,s9])):=by kernel_rfl
theorem aIz {β:Type} (fu:Nat) (G:FG β) (H:FH β) (v:Int) (xs zs ys:List Int) (f g h i j s0 s1 s2 s3 s4 s5 s6 s7 s8 s9:Int):fI prog (cW T0 R0 aG aM T1 R1 aN bI T2 R2 bC bW dW eT eX) fu dR G H (bX 0 v xs 0 [f,g,h,i,j] 4 zs ys [s0,s1,s2,s3,s4,s5,s6,s7,s8,s9]) =
 (R0 [AV.agg (TRow.ints u64 [s8,s9]) 2,AV.int u64 v,AV.int u64 j]).bind λ (t:T0)=>G (some (bX 0 v xs 0 [f,g,h,i,j] 5 zs ys [s0,s1,s2,s3,s4,s5,s6,s7,aG t,aM t])):=by kernel_rfl
theorem aRd {β:Type} (fu:Nat) (G:FG β) (H:FH β) (a b c d e:Int) (zs ys ss:List Int):fI prog (cW T0 R0 aG aM T1 R1 aN bI T2 R2 bC bW dW eT eX) fu u7 G H (qL [a,b,c,d,e] 0 zs ys ss) =
 eS prog (cW T0 R0 aG aM T1 R1 aN bI T2 R2 bC bW dW eT eX) fu dR (u9 T0 R0 aG aM T1 R1 aN bI T2 R2 bC bW dW eT eX fu G H) fu (some (bX 0 a [a,b,c,d,e] 0 zs 0 zs ys ss)):=by kernel_rfl
theorem aRe {β:Type} (fu:Nat) (G:FG β) (H:FH β) (xs zs ys ss:List Int):u9 T0 R0 aG aM T1 R1 aN bI T2 R2 bC bW dW eT eX fu G H (Ex.exit 2) (lS xs 0 zs ys ss) =
 G (some (qL xs 1 zs ys ss)):=by kernel_rfl
theorem aIA {β:Type} (fu:Nat) (G:FG β) (H:FH β) (v:Int) (xs ys zs ss x23:List Int):fI prog (cW T0 R0 aG aM T1 R1 aN bI T2 R2 bC bW dW eT eX) fu dR G H (bX 0 v xs 0 x23 5 zs ys ss) =
 H (Ex.exit 2) (some (lS xs 0 zs ys ss)):=by kernel_rfl
theorem aIB {β:Type} (fu:Nat) (G:FG β) (H:FH β) (v:Int) (xs zs ys:List Int) (f g h i j s0 s1 s2 s3 s4 s5 s6 s7 s8 s9:Int):fI prog (cW T0 R0 aG aM T1 R1 aN bI T2 R2 bC bW dW eT eX) fu dR G H (bX 1 v xs 1 [f,g,h,i,j] 0 zs ys [s0,s1,s2,s3,s4,s5,s6,s7,s8,s9]) =
 (R0 [AV.agg (TRow.ints u64 [s2,s3]) 2,AV.int u64 v,AV.int u64 f]).bind λ (t:T0)=>G (some (bX 1 v xs 1 [f,g,h,i,j] 1 zs ys [s0,s1,aG t,aM t,s4,s5,s6,s7,s8,s9])):=by kernel_rfl
theorem aIC {β:Type} (fu:Nat) (G:FG β) (H:FH β) (v:Int) (xs zs ys:List Int) (f g h i j s0 s1 s2 s3 s4 s5 s6 s7 s8 s9:Int):fI prog (cW T0 R0 aG aM T1 R1 aN bI T2 R2 bC bW dW eT eX) fu dR G H (bX 1 v xs 1 [f,g,h,i,j] 1 zs ys [s0,s1,s2,s3,s4,s5,s6,s7,s8,s9]) =
 (R0 [AV.agg (TRow.ints u64 [s4,s5]) 2,AV.int u64 v,AV.int u64 g]).bind λ (t:T0)=>G (some (bX 1 v xs 1 [f,g,h,i,j] 2 zs ys [s0,s1,s2,s3,aG t,aM t,s6,s7,s8,s9])):=by kernel_rfl
theorem aID {β:Type} (fu:Nat) (G:FG β) (H:FH β) (v:Int) (xs zs ys:List Int) (f g h i j s0 s1 s2 s3 s4 s5 s6 s7 s8 s9:Int):fI prog (cW T0 R0 aG aM T1 R1 aN bI T2 R2 bC bW dW eT eX) fu dR G H (bX 1 v xs 1 [f,g,h,i,j] 2 zs ys [s0,s1,s2,s3,s4,s5,s6,s7,s8,s9]) =
 (R0 [AV.agg (TRow.ints u64 [s6,s7]) 2,AV.int u64 v,AV.int u64 h]).bind λ (t:T0)=>G (some (bX 1 v xs 1 [f,g,h,i,j] 3 zs ys [s0,s1,s2,s3,s4,s5,aG t,aM t,s8,s9])):=by kernel_rfl
theorem aIE {β:Type} (fu:Nat) (G:FG β) (H:FH β) (v:Int) (xs zs ys:List Int) (f g h i j s0 s1 s2 s3 s4 s5 s6 s7 s8 s9:Int):fI prog (cW T0 R0 aG aM T1 R1 aN bI T2 R2 bC bW dW eT eX) fu dR G H (bX 1 v xs 1 [f,g,h,i,j] 3 zs ys [s0,s1,s2,s3,s4,s5,s6,s7,s8,s9]) =
 (R0 [AV.agg (TRow.ints u64 [s8,s9]) 2,AV.int u64 v,AV.int u64 i]).bind λ (t:T0)=>G (some (bX 1 v xs 1 [f,g,h,i,j] 4 zs ys [s0,s1,s2,s3,s4,s5,s6,s7,aG t,aM t])):=by kernel_rfl
theorem aIF {β:Type} (fu:Nat) (G:FG β) (H:FH β) (v:Int) (xs zs ys:List Int) (f g h i j s0 s1 s2 s3 s4 s5 s6 s7 s8 s9:Int):fI prog (cW T0 R0 aG aM T1 R1 aN bI T2 R2 bC bW dW eT eX) fu dR G H (bX 1 v xs 1 [f,g,h,i,j] 4 zs ys [s0,s1,s2,s3,s4,s5,s6,s7,s8,s9]) =
 (R0 [AV.agg (TRow.ints u64 [s0,s1]) 2,AV.int u64 v,AV.int u64 (u64.wrap (j*19))]).bind λ (t:T0)=>G (some (bX 1 v xs 1 [f,g,h,i,j] 5 zs ys [aG t,aM t,s2,s3,s4,s5,s6,s7,s8,s9])):=by kernel_rfl
theorem aRf {β:Type} (fu:Nat) (G:FG β) (H:FH β) (a b c d e:Int) (zs ys ss:List Int):fI prog (cW T0 R0 aG aM T1 R1 aN bI T2 R2 bC bW dW eT eX) fu u7 G H (qL [a,b,c,d,e] 1 zs ys ss) =
 eS prog (cW T0 R0 aG aM T1 R1 aN bI T2 R2 bC bW dW eT eX) fu dR (u9 T0 R0 aG aM T1 R1 aN bI T2 R2 bC bW dW eT eX fu G H) fu (some (bX 1 b [a,b,c,d,e] 1 zs 0 zs ys ss)):=by kernel_rfl
theorem aRg {β:Type} (fu:Nat) (G:FG β) (H:FH β) (xs zs ys ss:List Int):u9 T0 R0 aG aM T1 R1 aN bI T2 R2 bC bW dW eT eX fu G H (Ex.exit 2) (lS xs 1 zs ys ss) =
 G (some (qL xs 2 zs ys ss)):=by kernel_rfl
theorem aIG {β:Type} (fu:Nat) (G:FG β) (H:FH β) (v:Int) (xs ys zs ss x23:List Int):fI prog (cW T0 R0 aG aM T1 R1 aN bI T2 R2 bC bW dW eT eX) fu dR G H (bX 1 v xs 1 x23 5 zs ys ss) =
 H (Ex.exit 2) (some (lS xs 1 zs ys ss)):=by kernel_rfl
theorem aIH {β:Type} (fu:Nat) (G:FG β) (H:FH β) (v:Int) (xs zs ys:List Int) (f g h i j s0 s1 s2 s3 s4 s5 s6 s7 s8 s9:Int):fI prog (cW T0 R0 aG aM T1 R1 aN bI T2 R2 bC bW dW eT eX) fu dR G H (bX 2 v xs 2 [f,g,h,i,j] 0 zs ys [s0,s1,s2,s3,s4,s5,s6,s7,s8,s9]) =
 (R0 [AV.agg (TRow.ints u64 [s4,s5]) 2,AV.int u64 v,AV.int u64 f]).bind λ (t:T0)=>G (some (bX 2 v xs 2 [f,g,h,i,j] 1 zs ys [s0,s1,s2,s3,aG t,aM t,s6,s7,s8,s9])):=by kernel_rfl
theorem aII {β:Type} (fu:Nat) (G:FG β) (H:FH β) (v:Int) (xs zs ys:List Int) (f g h i j s0 s1 s2 s3 s4 s5 s6 s7 s8 s9:Int):fI prog (cW T0 R0 aG aM T1 R1 aN bI T2 R2 bC bW dW eT eX) fu dR G H (bX 2 v xs 2 [f,g,h,i,j] 1 zs ys [s0,s1,s2,s3,s4,s5,s6,s7,s8,s9]) =
 (R0 [AV.agg (TRow.ints u64 [s6,s7]) 2,AV.int u64 v,AV.int u64 g]).bind λ (t:T0)=>G (some (bX 2 v xs 2 [f,g,h,i,j] 2 zs ys [s0,s1,s2,s3,s4,s5,aG t,aM t,s8,s9])):=by kernel_rfl
theorem aIJ {β:Type} (fu:Nat) (G:FG β) (H:FH β) (v:Int) (xs zs ys:List Int) (f g h i j s0 s1 s2 s3 s4 s5 s6 s7 s8 s9:Int):fI prog (cW T0 R0 aG aM T1 R1 aN bI T2 R2 bC bW dW eT eX) fu dR G H (bX 2 v xs 2 [f,g,h,i,j] 2 zs ys [s0,s1,s2,s3,s4,s5,s6,s7,s8,s9]) =
 (R0 [AV.agg (TRow.ints u64 [s8,s9]) 2,AV.int u64 v,AV.int u64 h]).bind λ (t:T0)=>G (some (bX 2 v xs 2 [f,g,h,i,j] 3 zs ys [s0,s1,s2,s3,s4,s5,s6,s7,aG t,aM t])):=by kernel_rfl
theorem aIK {β:Type} (fu:Nat) (G:FG β) (H:FH β) (v:Int) (xs zs ys:List Int) (f g h i j s0 s1 s2 s3 s4 s5 s6 s7 s8 s9:Int):fI prog (cW T0 R0 aG aM T1 R1 aN bI T2 R2 bC bW dW eT eX) fu dR G H (bX 2 v xs 2 [f,g,h,i,j] 3 zs ys [s0,s1,s2,s3,s4,s5,s6,s7,s8,s9]) =
 (R0 [AV.agg (TRow.ints u64 [s0,s1]) 2,AV.int u64 v,AV.int u64 (u64.wrap (i*19))]).bind λ (t:T0)=>G (some (bX 2 v xs 2 [f,g,h,i,j] 4 zs ys [aG t,aM t,s2,s3,s4,s5,s6,s7,s8,s9])):=by kernel_rfl
theorem aIL {β:Type} (fu:Nat) (G:FG β) (H:FH β) (v:Int) (xs zs ys:List Int) (f g h i j s0 s1 s2 s3 s4 s5 s6 s7 s8 s9:Int):fI prog (cW T0 R0 aG aM T1 R1 aN bI T2 R2 bC bW dW eT eX) fu dR G H (bX 2 v xs 2 [f,g,h,i,j] 4 zs ys [s0,s1,s2,s3,s4,s5,s6,s7,s8,s9]) =
 (R0 [AV.agg (TRow.ints u64 [s2,s3]) 2,AV.int u64 v,AV.int u64 (u64.wrap (j*19))]).bind λ (t:T0)=>G (some (bX 2 v xs 2 [f,g,h,i,j] 5 zs ys [s0,s1,aG t,aM t,s4,s5,s6,s7,s8,s9])):=by kernel_rfl
theorem aRh {β:Type} (fu:Nat) (G:FG β) (H:FH β) (a b c d e:Int) (zs ys ss:List Int):fI prog (cW T0 R0 aG aM T1 R1 aN bI T2 R2 bC bW dW eT eX) fu u7 G H (qL [a,b,c,d,e] 2 zs ys ss) =
 eS prog (cW T0 R0 aG aM T1 R1 aN bI T2 R2 bC bW dW eT eX) fu dR (u9 T0 R0 aG aM T1 R1 aN bI T2 R2 bC bW dW eT eX fu G H) fu (some (bX 2 c [a,b,c,d,e] 2 zs 0 zs ys ss)):=by kernel_rfl
theorem aRi {β:Type} (fu:Nat) (G:FG β) (H:FH β) (xs zs ys ss:List Int):u9 T0 R0 aG aM T1 R1 aN bI T2 R2 bC bW dW eT eX fu G H (Ex.exit 2) (lS xs 2 zs ys ss) =
 G (some (qL xs 3 zs ys ss)):=by kernel_rfl
theorem aIM {β:Type} (fu:Nat) (G:FG β) (H:FH β) (v:Int) (xs ys zs ss x23:List Int):fI prog (cW T0 R0 aG aM T1 R1 aN bI T2 R2 bC bW dW eT eX) fu dR G H (bX 2 v xs 2 x23 5 zs ys ss) =
 H (Ex.exit 2) (some (lS xs 2 zs ys ss)):=by kernel_rfl
theorem aIN {β:Type} (fu:Nat) (G:FG β) (H:FH β) (v:Int) (xs zs ys:List Int) (f g h i j s0 s1 s2 s3 s4 s5 s6 s7 s8 s9:Int):fI prog (cW T0 R0 aG aM T1 R1 aN bI T2 R2 bC bW dW eT eX) fu dR G H (bX 3 v xs 3 [f,g,h,i,j] 0 zs ys [s0,s1,s2,s3,s4,s5,s6,s7,s8,s9]) =
 (R0 [AV.agg (TRow.ints u64 [s6,s7]) 2,AV.int u64 v,AV.int u64 f]).bind λ (t:T0)=>G (some (bX 3 v xs 3 [f,g,h,i,j] 1 zs ys [s0,s1,s2,s3,s4,s5,aG t,aM t,s8,s9])):=by kernel_rfl
theorem aIO {β:Type} (fu:Nat) (G:FG β) (H:FH β) (v:Int) (xs zs ys:List Int) (f g h i j s0 s1 s2 s3 s4 s5 s6 s7 s8 s9:Int):fI prog (cW T0 R0 aG aM T1 R1 aN bI T2 R2 bC bW dW eT eX) fu dR G H (bX 3 v xs 3 [f,g,h,i,j] 1 zs ys [s0,s1,s2,s3,s4,s5,s6,s7,s8,s9]) =
 (R0 [AV.agg (TRow.ints u64 [s8,s9]) 2,AV.int u64 v,AV.int u64 g]).bind λ (t:T0)=>G (some (bX 3 v xs 3 [f,g,h,i,j] 2 zs ys [s0,s1,s2,s3,s4,s5,s6,s7,aG t,aM t])):=by kernel_rfl
theorem aIP {β:Type} (fu:Nat) (G:FG β) (H:FH β) (v:Int) (xs zs ys:List Int) (f g h i j s0 s1 s2 s3 s4 s5 s6 s7 s8 s9:Int):fI prog (cW T0 R0 aG aM T1 R1 aN bI T2 R2 bC bW dW eT eX) fu dR G H (bX 3 v xs 3 [f,g,h,i,j] 2 zs ys [s0,s1,s2,s3,s4,s5,s6,s7,s8,s9]) =
 (R0 [AV.agg (TRow.ints u64 [s0,s1]) 2,AV.int u64 v,AV.int u64 (u64.wrap (h*19))]).bind λ (t:T0)=>G (some (bX 3 v xs 3 [f,g,h,i,j] 3 zs ys [aG t,aM t,s2,s3,s4,s5,s6,s7,s8,s9])):=by kernel_rfl
theorem aIQ {β:Type} (fu:Nat) (G:FG β) (H:FH β) (v:Int) (xs zs ys:List Int) (f g h i j s0 s1 s2 s3 s4 s5 s6 s7 s8 s9:Int):fI prog (cW T0 R0 aG aM T1 R1 aN bI T2 R2 bC bW dW eT eX) fu dR G H (bX 3 v xs 3 [f,g,h,i,j] 3 zs ys [s0,s1,s2,s3,s4,s5,s6,s7,s8,s9]) =
 (R0 [AV.agg (TRow.ints u64 [s2,s3]) 2,AV.int u64 v,AV.int u64 (u64.wrap (i*19))]).bind λ (t:T0)=>G (some (bX 3 v xs 3 [f,g,h,i,j] 4 zs ys [s0,s1,aG t,aM t,s4,s5,s6,s7,s8,s9])):=by kernel_rfl
theorem aIR {β:Type} (fu:Nat) (G:FG β) (H:FH β) (v:Int) (xs zs ys:List Int) (f g h i j s0 s1 s2 s3 s4 s5 s6 s7 s8 s9:Int):fI prog (cW T0 R0 aG aM T1 R1 aN bI T2 R2 bC bW dW eT eX) fu dR G H (bX 3 v xs 3 [f,g,h,i,j] 4 zs ys [s0,s1,s2,s3,s4,s5,s6,s7,s8,s9]) =
 (R0 [AV.agg (TRow.ints u64 [s4,s5]) 2,AV.int u64 v,AV.int u64 (u64.wrap (j*19))]).bind λ (t:T0)=>G (some (bX 3 v xs 3 [f,g,h,i,j] 5 zs ys [s0,s1,s2,s3,aG t,aM t,s6,s7,s8,s9])):=by kernel_rfl
theorem aRj {β:Type} (fu:Nat) (G:FG β) (H:FH β) (a b c d e:Int) (zs ys ss:List Int):fI prog (cW T0 R0 aG aM T1 R1 aN bI T2 R2 bC bW dW eT eX) fu u7 G H (qL [a,b,c,d,e] 3 zs ys ss) =
 eS prog (cW T0 R0 aG aM T1 R1 aN bI T2 R2 bC bW dW eT eX) fu dR (u9 T0 R0 aG aM T1 R1 aN bI T2 R2 bC bW dW eT eX fu G H) fu (some (bX 3 d [a,b,c,d,e] 3 zs 0 zs ys ss)):=by kernel_rfl
theorem aRk {β:Type} (fu:Nat) (G:FG β) (H:FH β) (xs zs ys ss:List Int):u9 T0 R0 aG aM T1 R1 aN bI T2 R2 bC bW dW eT eX fu G H (Ex.exit 2) (lS xs 3 zs ys ss) =
 G (some (qL xs 4 zs ys ss)):=by kernel_rfl
theorem aIS {β:Type} (fu:Nat) (G:FG β) (H:FH β) (v:Int) (xs ys zs ss x23:List Int):fI prog (cW T0 R0 aG aM T1 R1 aN bI T2 R2 bC bW dW eT eX) fu dR G H (bX 3 v xs 3 x23 5 zs ys ss) =
 H (Ex.exit 2) (some (lS xs 3 zs ys ss)):=by kernel_rfl
theorem aIT {β:Type} (fu:Nat) (G:FG β) (H:FH β) (v:Int) (xs zs ys:List Int) (f g h i j s0 s1 s2 s3 s4 s5 s6 s7 s8 s9:Int):fI prog (cW T0 R0 aG aM T1 R1 aN bI T2 R2 bC bW dW eT eX) fu dR G H (bX 4 v xs 4 [f,g,h,i,j] 0 zs ys [s0,s1,s2,s3,s4,s5,s6,s7,s8,s9]) =
 (R0 [AV.agg (TRow.ints u64 [s8,s9]) 2,AV.int u64 v,AV.int u64 f]).bind λ (t:T0)=>G (some (bX 4 v xs 4 [f,g,h,i,j] 1 zs ys [s0,s1,s2,s3,s4,s5,s6,s7,aG t,aM t])):=by kernel_rfl
theorem aIU {β:Type} (fu:Nat) (G:FG β) (H:FH β) (v:Int) (xs zs ys:List Int) (f g h i j s0 s1 s2 s3 s4 s5 s6 s7 s8 s9:Int):fI prog (cW T0 R0 aG aM T1 R1 aN bI T2 R2 bC bW dW eT eX) fu dR G H (bX 4 v xs 4 [f,g,h,i,j] 1 zs ys [s0,s1,s2,s3,s4,s5,s6,s7,s8,s9]) =
 (R0 [AV.agg (TRow.ints u64 [s0,s1]) 2,AV.int u64 v,AV.int u64 (u64.wrap (g*19))]).bind λ (t:T0)=>G (some (bX 4 v xs 4 [f,g,h,i,j] 2 zs ys [aG t,aM t,s2,s3,s4,s5,s6,s7,s8,s9])):=by kernel_rfl
theorem aIV {β:Type} (fu:Nat) (G:FG β) (H:FH β) (v:Int) (xs zs ys:List Int) (f g h i j s0 s1 s2 s3 s4 s5 s6 s7 s8 s9:Int):fI prog (cW T0 R0 aG aM T1 R1 aN bI T2 R2 bC bW dW eT eX) fu dR G H (bX 4 v xs 4 [f,g,h,i,j] 2 zs ys [s0,s1,s2,s3,s4,s5,s6,s7,s8,s9]) =
 (R0 [AV.agg (TRow.ints u64 [s2,s3]) 2,AV.int u64 v,AV.int u64 (u64.wrap (h*19))]).bind λ (t:T0)=>G (some (bX 4 v xs 4 [f,g,h,i,j] 3 zs ys [s0,s1,aG t,aM t,s4,s5,s6,s7,s8,s9])):=by kernel_rfl
theorem aIW {β:Type} (fu:Nat) (G:FG β) (H:FH β) (v:Int) (xs zs ys:List Int) (f g h i j s0 s1 s2 s3 s4 s5 s6 s7 s8 s9:Int):fI prog (cW T0 R0 aG aM T1 R1 aN bI T2 R2 bC bW dW eT eX) fu dR G H (bX 4 v xs 4 [f,g,h,i,j] 3 zs ys [s0,s1,s2,s3,s4,s5,s6,s7,s8,s9]) =
 (R0 [AV.agg (TRow.ints u64 [s4,s5]) 2,AV.int u64 v,AV.int u64 (u64.wrap (i*19))]).bind λ (t:T0)=>G (some (bX 4 v xs 4 [f,g,h,i,j] 4 zs ys [s0,s1,s2,s3,aG t,aM t,s6,s7,s8,s9])):=by kernel_rfl
theorem aIX {β:Type} (fu:Nat) (G:FG β) (H:FH β) (v:Int) (xs zs ys:List Int) (f g h i j s0 s1 s2 s3 s4 s5 s6 s7 s8 s9:Int):fI prog (cW T0 R0 aG aM T1 R1 aN bI T2 R2 bC bW dW eT eX) fu dR G H (bX 4 v xs 4 [f,g,h,i,j] 4 zs ys [s0,s1,s2,s3,s4,s5,s6,s7,s8,s9]) =
 (R0 [AV.agg (TRow.ints u64 [s6,s7]) 2,AV.int u64 v,AV.int u64 (u64.wrap (j*19))]).bind λ (t:T0)=>G (some (bX 4 v xs 4 [f,g,h,i,j] 5 zs ys [s0,s1,s2,s3,s4,s5,aG t,aM t,s8,s9])):=by kernel_rfl
theorem aRl {β:Type} (fu:Nat) (G:FG β) (H:FH β) (a b c d e:Int) (zs ys ss:List Int):fI prog (cW T0 R0 aG aM T1 R1 aN bI T2 R2 bC bW dW eT eX) fu u7 G H (qL [a,b,c,d,e] 4 zs ys ss) =
 eS prog (cW T0 R0 aG aM T1 R1 aN bI T2 R2 bC bW dW eT eX) fu dR (u9 T0 R0 aG aM T1 R1 aN bI T2 R2 bC bW dW eT eX fu G H) fu (some (bX 4 e [a,b,c,d,e] 4 zs 0 zs ys ss)):=by kernel_rfl
theorem aRm {β:Type} (fu:Nat) (G:FG β) (H:FH β) (xs zs ys ss:List Int):u9 T0 R0 aG aM T1 R1 aN bI T2 R2 bC bW dW eT eX fu G H (Ex.exit 2) (lS xs 4 zs ys ss) =
 G (some (qL xs 5 zs ys ss)):=by kernel_rfl
theorem aIY {β:Type} (fu:Nat) (G:FG β) (H:FH β) (v:Int) (xs ys zs ss x23:List Int):fI prog (cW T0 R0 aG aM T1 R1 aN bI T2 R2 bC bW dW eT eX) fu dR G H (bX 4 v xs 4 x23 5 zs ys ss) =
 H (Ex.exit 2) (some (lS xs 4 zs ys ss)):=by kernel_rfl
theorem aRn {β:Type} (fu:Nat) (G:FG β) (H:FH β) (xs zs ys ss:List Int):fI prog (cW T0 R0 aG aM T1 R1 aN bI T2 R2 bC bW dW eT eX) fu u7 G H (qL xs 5 zs ys ss) =
 H (Ex.exit 0) (some (Pz ys ss)):=by kernel_rfl
theorem aXn (fu:Nat) (ys:List Int) (s0 s1 s2 s3 s4 s5 s6 s7 s8 s9:Int):aBT T0 R0 aG aM T1 R1 aN bI T2 R2 bC bW dW eT eX fu (Ex.exit 0) (Pz ys [s0,s1,s2,s3,s4,s5,s6,s7,s8,s9]) =
 (R1 [AV.agg (TRow.ints u64 [s0,s1]) 2]).bind λ (t:T1)=>
  (R1 [AV.agg (TRow.ints u64 [s2,s3]) 2]).bind λ (dH:T1)=>
   (R1 [AV.agg (TRow.ints u64 [s4,s5]) 2]).bind λ (eU:T1)=>
    (R1 [AV.agg (TRow.ints u64 [s6,s7]) 2]).bind λ (gF:T1)=>
     (R1 [AV.agg (TRow.ints u64 [s8,s9]) 2]).bind λ (gT:T1)=>
      eS prog (cW T0 R0 aG aM T1 R1 aN bI T2 R2 bC bW dW eT eX) fu CT (aBU T0 R0 aG aM T1 R1 aN bI T2 R2 bC bW dW eT eX fu) fu (some (qM [bI t,bI dH,bI eU,bI gF,bI gT] 0 ys [aN t,aN dH,aN eU,aN gF,aN gT])):=by kernel_rfl
theorem aRo {β:Type} (fu:Nat) (G:FG β) (H:FH β) (xs:List Int) (u0 u1 u2 u3 u4 o0 o1 o2 o3 o4:Int):fI prog (cW T0 R0 aG aM T1 R1 aN bI T2 R2 bC bW dW eT eX) fu CT G H (qM [u0,u1,u2,u3,u4] 0 xs [o0,o1,o2,o3,o4]) =
 G (some (qM [u0,u1,u2,u3,u4] 1 xs [o0,u64.wrap (o1+u0),o2,o3,o4])):=by kernel_rfl
theorem aRp {β:Type} (fu:Nat) (G:FG β) (H:FH β) (xs:List Int) (u0 u1 u2 u3 u4 o0 o1 o2 o3 o4:Int):fI prog (cW T0 R0 aG aM T1 R1 aN bI T2 R2 bC bW dW eT eX) fu CT G H (qM [u0,u1,u2,u3,u4] 1 xs [o0,o1,o2,o3,o4]) =
 G (some (qM [u0,u1,u2,u3,u4] 2 xs [o0,o1,u64.wrap (o2+u1),o3,o4])):=by kernel_rfl
theorem aRq {β:Type} (fu:Nat) (G:FG β) (H:FH β) (xs:List Int) (u0 u1 u2 u3 u4 o0 o1 o2 o3 o4:Int):fI prog (cW T0 R0 aG aM T1 R1 aN bI T2 R2 bC bW dW eT eX) fu CT G H (qM [u0,u1,u2,u3,u4] 2 xs [o0,o1,o2,o3,o4]) =
 G (some (qM [u0,u1,u2,u3,u4] 3 xs [o0,o1,o2,u64.wrap (o3+u2),o4])):=by kernel_rfl
theorem aRr {β:Type} (fu:Nat) (G:FG β) (H:FH β) (xs:List Int) (u0 u1 u2 u3 u4 o0 o1 o2 o3 o4:Int):fI prog (cW T0 R0 aG aM T1 R1 aN bI T2 R2 bC bW dW eT eX) fu CT G H (qM [u0,u1,u2,u3,u4] 3 xs [o0,o1,o2,o3,o4]) =
 G (some (qM [u0,u1,u2,u3,u4] 4 xs [o0,o1,o2,o3,u64.wrap (o4+u3)])):=by kernel_rfl
theorem aRs {β:Type} (fu:Nat) (G:FG β) (H:FH β) (xs:List Int) (u0 u1 u2 u3 u4 o0 o1 o2 o3 o4:Int):fI prog (cW T0 R0 aG aM T1 R1 aN bI T2 R2 bC bW dW eT eX) fu CT G H (qM [u0,u1,u2,u3,u4] 4 xs [o0,o1,o2,o3,o4]) =
 G (some (qM [u0,u1,u2,u3,u4] 5 xs [u64.wrap (o0+u64.wrap (u4*19)),o1,o2,o3,o4])):=by kernel_rfl
theorem aRt {β:Type} (fu:Nat) (G:FG β) (H:FH β) (xs us os:List Int):fI prog (cW T0 R0 aG aM T1 R1 aN bI T2 R2 bC bW dW eT eX) fu CT G H (qM us 5 xs os) =
 H (Ex.exit 6) (some (P1 xs os)):=by kernel_rfl
end
section
variable (T0:Type) (R0:FA T0) (aG aM cB cE cR:T0->Int)
theorem aRu {β:Type} (fu:Nat) (G:FG β) (H:FH β) (v o0 o1 o2 o3 o4:Int) (ys:List Int):fI prog (rJ T0 R0 aG aM cB cE cR) fu CS G H (u5 v 1 [o0,o1,o2,o3,o4] ys) =
 G (some (u5 (eK u64 (u64.wrap (o1+v)) 51) 2 [o0,o1,o2,o3,o4] ys)):=by kernel_rfl
theorem aRv {β:Type} (fu:Nat) (G:FG β) (H:FH β) (v o0 o1 o2 o3 o4:Int) (ys:List Int):fI prog (rJ T0 R0 aG aM cB cE cR) fu CS G H (u5 v 2 [o0,o1,o2,o3,o4] ys) =
 G (some (u5 (eK u64 (u64.wrap (o2+v)) 51) 3 [o0,o1,o2,o3,o4] ys)):=by kernel_rfl
theorem aRw {β:Type} (fu:Nat) (G:FG β) (H:FH β) (v o0 o1 o2 o3 o4:Int) (ys:List Int):fI prog (rJ T0 R0 aG aM cB cE cR) fu CS G H (u5 v 3 [o0,o1,o2,o3,o4] ys) =
 G (some (u5 (eK u64 (u64.wrap (o3+v)) 51) 4 [o0,o1,o2,o3,o4] ys)):=by kernel_rfl
theorem aRx {β:Type} (fu:Nat) (G:FG β) (H:FH β) (v o0 o1 o2 o3 o4:Int) (ys:List Int):fI prog (rJ T0 R0 aG aM cB cE cR) fu CS G H (u5 v 4 [o0,o1,o2,o3,o4] ys) =
 G (some (u5 (eK u64 (u64.wrap (o4+v)) 51) 5 [o0,o1,o2,o3,o4] ys)):=by kernel_rfl
theorem aRy {β:Type} (fu:Nat) (G:FG β) (H:FH β) (v:Int) (xs ys:List Int):fI prog (rJ T0 R0 aG aM cB cE cR) fu CS G H (u5 v 5 xs ys) =
 H (Ex.exit 0) (some (Px v xs ys)):=by kernel_rfl
theorem aRz {β:Type} (fu:Nat) (G:FG β) (H:FH β) (o0 o1 o2 o3 o4:Int) (ys:List Int):fI prog (rJ T0 R0 aG aM cB cE cR) fu Et G H (u6 0 [o0,o1,o2,o3,o4] ys) =
 G (some (u6 1 [d8 u64 o0 2251799813685247,u64.wrap (o1+eK u64 o0 51),o2,o3,o4] ys)):=by kernel_rfl
theorem aRA {β:Type} (fu:Nat) (G:FG β) (H:FH β) (o0 o1 o2 o3 o4:Int) (ys:List Int):fI prog (rJ T0 R0 aG aM cB cE cR) fu Et G H (u6 1 [o0,o1,o2,o3,o4] ys) =
 G (some (u6 2 [o0,d8 u64 o1 2251799813685247,u64.wrap (o2+eK u64 o1 51),o3,o4] ys)):=by kernel_rfl
theorem aRB {β:Type} (fu:Nat) (G:FG β) (H:FH β) (o0 o1 o2 o3 o4:Int) (ys:List Int):fI prog (rJ T0 R0 aG aM cB cE cR) fu Et G H (u6 2 [o0,o1,o2,o3,o4] ys) =
 G (some (u6 3 [o0,o1,d8 u64 o2 2251799813685247,u64.wrap (o3+eK u64 o2 51),o4] ys)):=by kernel_rfl
theorem aRC {β:Type} (fu:Nat) (G:FG β) (H:FH β) (o0 o1 o2 o3 o4:Int) (ys:List Int):fI prog (rJ T0 R0 aG aM cB cE cR) fu Et G H (u6 3 [o0,o1,o2,o3,o4] ys) =
 G (some (u6 4 [o0,o1,o2,d8 u64 o3 2251799813685247,u64.wrap (o4+eK u64 o3 51)] ys)):=by kernel_rfl
theorem aXo (fu:Nat) (v o0 o1 o2 o3 o4:Int) (ys:List Int):aBR T0 R0 aG aM cB cE cR fu (Ex.exit 0) (Px v [o0,o1,o2,o3,o4] ys) =
 eS prog (rJ T0 R0 aG aM cB cE cR) fu Et (aBS T0 R0 aG aM cB cE cR fu) fu (some (u6 0 [u64.wrap (o0+u64.wrap (19*v)),o1,o2,o3,o4] ys)):=by kernel_rfl
theorem aXp (fu:Nat) (o0 o1 o2 o3 o4:Int) (ys:List Int):aBS T0 R0 aG aM cB cE cR fu (Ex.exit 2) (Py [o0,o1,o2,o3,o4] ys) =
 some (AV.agg (TRow.ints u64 [o0,o1,o2,o3,d8 u64 o4 2251799813685247]) 5):=by kernel_rfl
theorem aRD {β:Type} (fu:Nat) (G:FG β) (H:FH β) (xs ys:List Int):fI prog (rJ T0 R0 aG aM cB cE cR) fu Et G H (u6 4 xs ys) =
 H (Ex.exit 2) (some (Py xs ys)):=by kernel_rfl
end
section
variable (T0:Type) (R0:FA T0) (aG:T0->List Int) (T1:Type) (R1:FA T1) (aN:T1->List Int) (T2:Type) (R2:FA T2) (bC:T2->List Int) (bW:T2->Bool) (T3:Type) (R3:FA T3) (bO cI:T3->List Int) (qG:T3->Int)
theorem aRE {β:Type} (fu:Nat) (G:FG β) (H:FH β) (xs ys:List Int) (o0 o1 o2 o3 o4:Int):fI prog (B8 T0 R0 aG T1 R1 aN T2 R2 bC bW T3 R3 bO cI qG) fu zP G H (qN 0 xs ys [o0,o1,o2,o3,o4]) =
 (R1 [AV.agg (TRow.ints u64 xs) 8,AV.int i64 (0)]).bind λ (t:T1)=>G (some (qN 1 xs ys [d8 u64 ((aN t).getD 0 0) 2251799813685247,o1,o2,o3,o4])):=by kernel_rfl
theorem aRF {β:Type} (fu:Nat) (G:FG β) (H:FH β) (xs ys:List Int) (o0 o1 o2 o3 o4:Int):fI prog (B8 T0 R0 aG T1 R1 aN T2 R2 bC bW T3 R3 bO cI qG) fu zP G H (qN 1 xs ys [o0,o1,o2,o3,o4]) =
 (R1 [AV.agg (TRow.ints u64 xs) 8,AV.int i64 (-51)]).bind λ (t:T1)=>G (some (qN 2 xs ys [o0,d8 u64 ((aN t).getD 0 0) 2251799813685247,o2,o3,o4])):=by kernel_rfl
theorem aRG {β:Type} (fu:Nat) (G:FG β) (H:FH β) (xs ys:List Int) (o0 o1 o2 o3 o4:Int):fI prog (B8 T0 R0 aG T1 R1 aN T2 R2 bC bW T3 R3 bO cI qG) fu zP G H (qN 2 xs ys [o0,o1,o2,o3,o4]) =
 (R1 [AV.agg (TRow.ints u64 xs) 8,AV.int i64 (-102)]).bind λ (t:T1)=>G (some (qN 3 xs ys [o0,o1,d8 u64 ((aN t).getD 0 0) 2251799813685247,o3,o4])):=by kernel_rfl
theorem aRH {β:Type} (fu:Nat) (G:FG β) (H:FH β) (xs ys:List Int) (o0 o1 o2 o3 o4:Int):fI prog (B8 T0 R0 aG T1 R1 aN T2 R2 bC bW T3 R3 bO cI qG) fu zP G H (qN 3 xs ys [o0,o1,o2,o3,o4]) =
 (R1 [AV.agg (TRow.ints u64 xs) 8,AV.int i64 (-153)]).bind λ (t:T1)=>G (some (qN 4 xs ys [o0,o1,o2,d8 u64 ((aN t).getD 0 0) 2251799813685247,o4])):=by kernel_rfl
theorem aRI {β:Type} (fu:Nat) (G:FG β) (H:FH β) (xs ys:List Int) (o0 o1 o2 o3 o4:Int):fI prog (B8 T0 R0 aG T1 R1 aN T2 R2 bC bW T3 R3 bO cI qG) fu zP G H (qN 4 xs ys [o0,o1,o2,o3,o4]) =
 (R1 [AV.agg (TRow.ints u64 xs) 8,AV.int i64 (-204)]).bind λ (t:T1)=>G (some (qN 5 xs ys [o0,o1,o2,o3,d8 u64 ((aN t).getD 0 0) 2251799813685247])):=by kernel_rfl
theorem aRJ {β:Type} (fu:Nat) (G:FG β) (H:FH β) (xs ys zs:List Int):fI prog (B8 T0 R0 aG T1 R1 aN T2 R2 bC bW T3 R3 bO cI qG) fu zP G H (qN 5 xs ys zs) =
 H (Ex.exit 0) (some (P6 ys zs)):=by kernel_rfl
end
set_option maxRecDepth 4000
theorem aB4 {T:Type} {F:Fe->T} {args:List AV} {t:T} (h:VZ F args=some t):∃ x,args=[eF x] /\ f64 x /\ t=F x:=by
 unfold VZ at h;split at h
 ·rename_i a b c d e;obtain ⟨h1,h2⟩:=cC h;simp only [inG,hO,aX,bG] at h1;obtain ⟨⟨⟨⟨⟨a0,a1⟩,b0,b1⟩,c0,c1⟩,d0,d1⟩,e0,e1⟩:=h1;obtain ⟨a,rfl⟩:=b9 a0;obtain ⟨b,rfl⟩:=b9 b0;obtain ⟨c,rfl⟩:=b9 c0;obtain ⟨d,rfl⟩:=b9 d0;obtain ⟨e,rfl⟩:=b9 e0;exact ⟨⟨a,b,c,d,e⟩,rfl,⟨by simp only; omega,by simp only; omega,by simp only; omega,by simp only; omega,by simp only; omega⟩,h2.symm⟩
 ·cases h
theorem eI {a b c d e:Int} (h:wZ a b c d e=true):∃ x:Fe,a=x.a /\ b=x.b /\ c=x.c /\ d=x.d /\ e=x.e /\ cN x /\ xI a b c d e=x:=by
 simp only [wZ,bG] at h;obtain ⟨a0,a1,b0,b1,c0,c1,d0,d1,e0,e1⟩:=h;obtain ⟨a,rfl⟩:=b9 a0;obtain ⟨b,rfl⟩:=b9 b0;obtain ⟨c,rfl⟩:=b9 c0;obtain ⟨d,rfl⟩:=b9 d0;obtain ⟨e,rfl⟩:=b9 e0;exact ⟨⟨a,b,c,d,e⟩,rfl,rfl,rfl,rfl,rfl,⟨by simp only; omega,by simp only; omega,by simp only; omega,by simp only; omega,by simp only; omega⟩,rfl⟩
theorem pY {T:Type} {F:Fe->T} {args:List AV} {t:T} (h:zO F args=some t):∃ x,args=[eF x] /\ cN x /\ t=F x:=by
 unfold zO at h;split at h
 ·obtain ⟨h1,h2⟩:=cC h;obtain ⟨x,rfl,rfl,rfl,rfl,rfl,hx,ex⟩:=eI h1;exact ⟨x,rfl,hx,by rw [<-h2,ex]⟩
 ·cases h
theorem vW {T:Type} {F:Fe->Fe->T} {args:List AV} {t:T} (h:DI F args=some t):∃ x y,args=[eF x,eF y] /\ cN x /\ cN y /\ t=F x y:=by
 unfold DI at h;split at h
 ·obtain ⟨h1,h2⟩:=cC h;rw [aX] at h1;obtain ⟨x,rfl,rfl,rfl,rfl,rfl,hx,ex⟩:=eI h1.1;obtain ⟨y,rfl,rfl,rfl,rfl,rfl,hy,ey⟩:=eI h1.2;exact ⟨x,y,rfl,hx,hy,by rw [<-h2,ex,ey]⟩
 ·cases h
theorem eJ {x:Fe} (h:cN x):wZ x.a x.b x.c x.d x.e=true:=by
 obtain ⟨h1,h2,h3,h4,h5⟩:=h;simp only [wZ,bG];omega
theorem zR {T:Type} (F:Fe->T) {x:Fe} (h:cN x):zO F [eF x]=some (F x):=by
 show cond (wZ x.a x.b x.c x.d x.e) (some (F (xI x.a x.b x.c x.d x.e))) none=_;rw [eJ h]; rfl
theorem Ew {T:Type} (F:Fe->Fe->T) {x y:Fe} (h:cN x) (h2:cN y):DI F [eF x,eF y]=some (F x y):=by
 show cond (wZ x.a x.b x.c x.d x.e && wZ y.a y.b y.c y.d y.e) (some (F (xI x.a x.b x.c x.d x.e) (xI y.a y.b y.c y.d y.e))) none=_;rw [eJ h,eJ h2]; rfl
theorem y4 {n:Nat} (h:n < 18446744073709551616):hO (n:Int)=true:=aE (by omega)
theorem aRK {T:Type} (F:Fe->T) {x:Fe} (h:f64 x):VZ F [eF x]=some (F x):=by
 obtain ⟨h1,h2,h3,h4,h5⟩:=h;show cond (inG x.a x.b x.c x.d x.e) (some (F (xI x.a x.b x.c x.d x.e))) none=_;rw [inG,y4 h1,y4 h2,y4 h3,y4 h4,y4 h5]; rfl
theorem Yx (x:Nat) (h:x < 18446744073709551616):d8 .u64 (x:Int) 2251799813685247=((x%2251799813685248:Nat):Int):=by
 rw [show (2251799813685247:Int)=((2251799813685247:Nat):Int) from rfl,Dp x _ h (by omega),show (2251799813685247:Nat)=2 ^ 51 - 1 from rfl,PR]
theorem Bj (x:Nat):eK .u64 (x:Int) 51=((x / 2251799813685248:Nat):Int):=mX x 51 (by omega)
theorem Vj {x:Nat} (h:x < 18446744073709551616):u64.wrap (x:Int)=x:=Ta (by omega) (by omega)
theorem qO {u v:Nat} (h:u+v < 18446744073709551616):u64.wrap ((u:Int)+(v:Int))=((u+v:Nat):Int):=by
 rw [<-fZ]; exact Vj h
theorem w19 {u:Nat} (h:u*19 < 18446744073709551616):u64.wrap ((u:Int)*19)=((u*19:Nat):Int):=by
 rw [show (19:Int)=((19:Nat):Int) from rfl,<-oA]; exact Vj h
abbrev aRL:Cg:=aNW (Int × Int) aBB (λ t=>t.fst) (λ t=>t.snd) (Int × Int) aBC (λ t=>t.fst) (λ t=>t.snd)
theorem aIZ:CfOk prog aRL.c:=gk <| aA Qj <| aA Ic <| aK
theorem aI0:CallOk prog 126 Va:=by
 refine i4 aIZ Tryz.func126 ?_;intro args t ht;unfold Va at ht;simp only at ht;split at ht
 ·rename_i h l x y;obtain ⟨h1,h2⟩:=cC ht;simp only [aX,hO,bG] at h1;obtain ⟨⟨⟨⟨⟨a0,a1⟩,b0,b1⟩,c0,c1⟩,d0,d1⟩,e1⟩:=h1;have e1:=dL.mp e1;obtain ⟨h,rfl⟩:=b9 a0;obtain ⟨l,rfl⟩:=b9 b0;obtain ⟨x,rfl⟩:=b9 c0;obtain ⟨y,rfl⟩:=b9 d0;simp only [bE] at h2 e1;subst h2;refine (aQM ..).trans ?_;rw [show aBB [.int .u64 (x:Int),.int .u64 (y:Int)]=_ from E8 x y (by omega) (by omega),aC,show aBC [.int .u64 (l:Int),.int .u64 ((x*y%18446744073709551616:Nat):Int),.int .u64 0]=_ from GB l (x*y%18446744073709551616) (by omega) (bK _ (by decide)),aC];generalize hP:x*y=p at *;have hw:u64.wrap (u64.wrap ((h:Int)+((p / 18446744073709551616:Nat):Int))+(((l+p%18446744073709551616) / 18446744073709551616:Nat):Int))=(((18446744073709551616*h+l+p) / 18446744073709551616:Nat):Int):=by
   rw [Ta (n:=(h:Int)+((p / 18446744073709551616:Nat):Int)) (by omega) (by omega),Ta (by omega) (by omega)];omega
  have hl:(((l+p%18446744073709551616)%18446744073709551616:Nat):Int)=(((18446744073709551616*h+l+p)%18446744073709551616:Nat):Int):=by omega
  show some (AV.agg (TRow.ints u64 [u64.wrap (u64.wrap ((h:Int)+((p / 18446744073709551616:Nat):Int))+(((l+p%18446744073709551616) / 18446744073709551616:Nat):Int)),(((l+p%18446744073709551616)%18446744073709551616:Nat):Int)]) 2)=some (AV.agg (TRow.ints u64 [_,_]) 2);rw [hw,hl]
 ·cases ht
theorem dE {s x y:Nat} (hs:s < 1329227995784915872903807060280344576) (hx:x < 18446744073709551616) (hy:y < 18446744073709551616) (h:x*y < 1329227995784915872903807060280344576) :
  aBD [.agg (.ints .u64 [((s / 18446744073709551616:Nat):Int),((s%18446744073709551616:Nat):Int)]) 2,.int .u64 (x:Int),.int .u64 (y:Int)]=some (s+x*y):=by
 have e:18446744073709551616*(s / 18446744073709551616)+s%18446744073709551616=s:=eO ..;simp only [aBD,Va,bE];rw [y4 (by omega),y4 (by omega),y4 hx,y4 hy,e,dL.mpr (by omega)]; rfl
abbrev aRM:Cg:=aNX 
theorem aI1:CfOk prog aRM.c:=gk <| aK
theorem aI2:CallOk prog 127 Vb:=by
 refine i4 aI1 Tryz.func127 ?_;intro args t ht;unfold Vb at ht;simp only at ht;split at ht
 ·rename_i h l;obtain ⟨h1,h2⟩:=cC ht;simp only [aX,hO,bG] at h1;obtain ⟨⟨⟨a0,a1⟩,b0,b1⟩,e1⟩:=h1;obtain ⟨h,rfl⟩:=b9 a0;obtain ⟨l,rfl⟩:=b9 b0;simp only [bE] at h2 e1;subst h2;refine (aQN ..).trans ?_;have hs:j8 .u64 (h:Int) 13=((h*8192:Nat):Int):=by
   have:=Do h 13 (by omega);rw [show ((13:Nat):Int)=13 from rfl] at this;rw [this,show (2:Nat) ^ 13=8192 from rfl,aV (by omega)]
  have ho:h*8192 ||| l / 2251799813685248=h*8192+l / 2251799813685248:=by
   have:=yV (i:=13) (b:=l / 2251799813685248) (by omega) h;rw [show 2 ^ 13*h=h*8192 by omega] at this;exact this.symm
  rw [Yx l (by omega),Bj,hs,NR _ _ (by omega) (by omega),ho];have e2:l%2251799813685248=(18446744073709551616*h+l)%2251799813685248:=by omega
  have e3:h*8192+l / 2251799813685248=(18446744073709551616*h+l) / 2251799813685248:=by omega
  rw [e2,e3]; rfl
 ·cases ht
theorem zS {s:Nat} (h:s < 41538374868278621028243970633760768):aBE [.agg (.ints .u64 [((s / 18446744073709551616:Nat):Int),((s%18446744073709551616:Nat):Int)]) 2]=some (s%2251799813685248,s / 2251799813685248):=by
 have e:18446744073709551616*(s / 18446744073709551616)+s%18446744073709551616=s:=eO ..;simp only [aBE,Vb,bE];rw [y4 (by omega),y4 (by omega),e,aE (by omega)]; rfl
abbrev aRN:Cg:=aNY 
theorem aI3:CfOk prog aRN.c:=gk <| aK
theorem CU:CallOk prog 79 aBF:=by
 refine i4 aI3 Tryz.func79 ?_;intro args t ht;unfold aBF at ht;simp only at ht;split at ht
 ·rename_i n;obtain ⟨h1,h2⟩:=cC ht;simp only [hO,bG] at h1;obtain ⟨n,rfl⟩:=b9 h1.1;subst h2;refine (aQO ..).trans ?_;rw [Yx n (by omega),Bj];have e:fe n=⟨n%2251799813685248,n / 2251799813685248,0,0,0⟩:=by
   simp only [fe,Fe.mk.injEq];refine ⟨trivial,?_,?_,?_,?_⟩ <;> omega
  show _=some (eF (fe n));rw [e]; rfl
 ·cases ht
theorem xJ {n:Nat} (h:n < 18446744073709551616):MP [.int .u64 (n:Int)]=some (fe n):=by
 simp only [MP,aBF,bE];rw [y4 h]; rfl
abbrev aRO:Cg:=aNZ 
theorem aI4:CfOk prog aRO.c:=gk <| aK
theorem MX:CallOk prog 125 aQG:=by
 refine i4 aI4 Tryz.func125 ?_;intro args t ht;obtain ⟨x,rfl,hx,rfl⟩:=aB4 (F:=oK) ht;obtain ⟨h1,h2,h3,h4,h5⟩:=hx;refine (aQP ..).trans ?_;rw [Yx _ h1,Yx _ h2,Yx _ h3,Yx _ h4,Yx _ h5,Bj,Bj,Bj,Bj,Bj,w19 (by omega),qO (by omega),qO (by omega),qO (by omega),qO (by omega),qO (by omega)];rfl
theorem DM {x:Fe} (h:f64 x):Yv [eF x]=some (oK x):=by
 simp only [Yv,aQG];exact aRK oK h
abbrev aRP:Cg:=aN0 (Fe) Yv (λ t=>↑t.a) (λ t=>↑t.b) (λ t=>↑t.c) (λ t=>↑t.d) (λ t=>↑t.e)
theorem aI5:CfOk prog aRP.c:=gk <| aA MX <| aK
theorem tV:CallOk prog 75 Vc:=by
 refine i4 aI5 Tryz.func75 ?_;intro args t ht;obtain ⟨x,y,rfl,hx,hy,rfl⟩:=vW (F:=gC) ht;obtain ⟨h1,h2,h3,h4,h5⟩:=hx;obtain ⟨g1,g2,g3,g4,g5⟩:=hy;refine (aQS ..).trans ?_;have hc:=DM (x:=⟨x.a+y.a,x.b+y.b,x.c+y.c,x.d+y.d,x.e+y.e⟩) ⟨by simp only; omega,by simp only; omega,by simp only; omega,by simp only; omega,by simp only; omega⟩;simp only [eF] at hc;rw [qO (by omega),qO (by omega),qO (by omega),qO (by omega),qO (by omega),hc];rfl
theorem fM {x y:Fe} (h:cN x) (h2:cN y):tU [eF x,eF y]=some (gC x y):=by
 simp only [tU,Vc];exact Ew gC h h2
abbrev aRQ:Cg:=aN1 (Fe) Yv (λ t=>↑t.a) (λ t=>↑t.b) (λ t=>↑t.c) (λ t=>↑t.d) (λ t=>↑t.e)
theorem aI6:CfOk prog aRQ.c:=gk <| aA MX <| aK
theorem xK:CallOk prog 77 Vd:=by
 refine i4 aI6 Tryz.func77 ?_;intro args t ht;obtain ⟨x,y,rfl,hx,hy,rfl⟩:=vW (F:=cJ) ht;obtain ⟨h1,h2,h3,h4,h5⟩:=hx;obtain ⟨g1,g2,g3,g4,g5⟩:=hy;refine (aQT ..).trans ?_;have hc:=DM (x:=⟨x.a+(4503599627370458 - y.a),x.b+(4503599627370494 - y.b),x.c+(4503599627370494 - y.c),x.d+(4503599627370494 - y.d),x.e+(4503599627370494 - y.e)⟩) ⟨by simp only; omega,by simp only; omega,by simp only; omega,by simp only; omega,by simp only; omega⟩;have w:∀ (u v k:Nat),u <= 2251799813947392->v <= 2251799813947392->(k=4503599627370458 ∨ k=4503599627370494)->u64.wrap ((u:Int)+u64.wrap ((k:Int) - (v:Int)))=((u+(k - v):Nat):Int):=λ u v k hu hv hk=>by
  rw [Ta (n:=(k:Int) - v) (by omega) (by omega),Ta (by omega) (by omega)];omega
 rw [show (4503599627370458:Int)=((4503599627370458:Nat):Int) from rfl,show (4503599627370494:Int)=((4503599627370494:Nat):Int) from rfl,
  w _ _ _ h1 g1 (.inl rfl),w _ _ _ h2 g2 (.inr rfl),w _ _ _ h3 g3 (.inr rfl),w _ _ _ h4 g4 (.inr rfl),w _ _ _ h5 g5 (.inr rfl)]
 simp only [eF] at hc;rw [hc];rfl
theorem gP {x y:Fe} (h:cN x) (h2:cN y):vQ [eF x,eF y]=some (cJ x y):=by
 simp only [vQ,Vd];exact Ew cJ h h2
theorem sV:cN f0:=by simp [cN,f0]
abbrev aRR:Cg:=aN2 (Fe) vQ (λ t=>↑t.a) (λ t=>↑t.b) (λ t=>↑t.c) (λ t=>↑t.d) (λ t=>↑t.e)
theorem aI7:CfOk prog aRR.c:=gk <| aA xK <| aK
theorem A2:CallOk prog 84 Ve:=by
 refine i4 aI7 Tryz.func84 ?_;intro args t ht;obtain ⟨x,rfl,hx,rfl⟩:=pY (F:=λ x=>cJ f0 x) ht;refine (aQU ..).trans ?_;have hc:=gP sV hx;simp only [eF,f0] at hc;rw [show (0:Int)=((0:Nat):Int) from rfl,hc];rfl
theorem sW {x:Fe} (h:cN x):H8 [eF x]=some (cJ f0 x):=by
 simp only [H8,Ve];exact zR (λ x=>cJ f0 x) h
abbrev aB5:Cg:=cW (Nat) aBD (λ t=>↑(t / 18446744073709551616)) (λ t=>↑(t%18446744073709551616)) (Nat × Nat) aBE (λ t=>↑t.fst) (λ t=>↑t.snd) (Fe) Yv (λ t=>↑t.a) (λ t=>↑t.b) (λ t=>↑t.c) (λ t=>↑t.d) (λ t=>↑t.e)
theorem aI8:CfOk prog aB5.c:=gk <| aA aI0 <| aA aI2 <| aA MX <| aK
theorem pz:[(0:Int),0,0,0,0,0,0,0,0,0]=[((0 / 18446744073709551616:Nat):Int),((0%18446744073709551616:Nat):Int),((0 / 18446744073709551616:Nat):Int),((0%18446744073709551616:Nat):Int),((0 / 18446744073709551616:Nat):Int),((0%18446744073709551616:Nat):Int),((0 / 18446744073709551616:Nat):Int),((0%18446744073709551616:Nat):Int),((0 / 18446744073709551616:Nat):Int),((0%18446744073709551616:Nat):Int)]:=rfl
theorem Sl {a b:Nat} (ha:a <= 2251799813947392) (hb:b <= 2251799813947392):a*b <= 5070602402093509226772943601664:=iJ ha hb
theorem mb2 {a b:Nat} (ha:a <= 2251799813947392) (hb:b <= 2251799813947392):a*(b*19) <= 96341445639776675308685928431616:=by
 have:=Sl ha hb;rw [<-d9]; omega
theorem nD:CallOk prog 76 Vf:=by
 refine aZ (fu:=λ _=>6) aI8 Tryz.func76 ?_;intro args t ht;obtain ⟨x,y,rfl,hx,hy,rfl⟩:=vW (F:=aO) ht;obtain ⟨s0,s1,s2,s3,s4⟩:=aNV hx hy;obtain ⟨h1,h2,h3,h4,h5⟩:=hx;obtain ⟨g1,g2,g3,g4,g5⟩:=hy;have p00:=Sl h1 g1;have p01:=Sl h1 g2;have p02:=Sl h1 g3;have p03:=Sl h1 g4;have p04:=Sl h1 g5;have p10:=Sl h2 g1;have p11:=Sl h2 g2;have p12:=Sl h2 g3;have p13:=Sl h2 g4;have p14:=mb2 h2 g5;have p20:=Sl h3 g1;have p21:=Sl h3 g2;have p22:=Sl h3 g3;have p23:=mb2 h3 g4;have p24:=mb2 h3 g5;have p30:=Sl h4 g1;have p31:=Sl h4 g2;have p32:=mb2 h4 g3;have p33:=mb2 h4 g4;have p34:=mb2 h4 g5;have p40:=Sl h5 g1;have p41:=mb2 h5 g2;have p42:=mb2 h5 g3;have p43:=mb2 h5 g4;have p44:=mb2 h5 g5;refine (aQW ..).trans ?_;rw [pz];show eS prog aB5 6 u7 _ 6 (some _)=_;rw [aF,aRd];rw [aF,aIv,dE (by omega) (by omega) (by omega) (by omega),aC];rw [aF,aIw,dE (by omega) (by omega) (by omega) (by omega),aC];rw [aF,aIx,dE (by omega) (by omega) (by omega) (by omega),aC];rw [aF,aIy,dE (by omega) (by omega) (by omega) (by omega),aC];rw [aF,aIz,dE (by omega) (by omega) (by omega) (by omega),aC];rw [aF,aIA,aR,aRe];rw [aF,aRf];rw [aF,aIB,dE (by omega) (by omega) (by omega) (by omega),aC];rw [aF,aIC,dE (by omega) (by omega) (by omega) (by omega),aC];rw [aF,aID,dE (by omega) (by omega) (by omega) (by omega),aC];rw [aF,aIE,dE (by omega) (by omega) (by omega) (by omega),aC];rw [aF,aIF,w19 (by omega),dE (by omega) (by omega) (by omega) (by omega),aC];rw [aF,aIG,aR,aRg];rw [aF,aRh];rw [aF,aIH,dE (by omega) (by omega) (by omega) (by omega),aC];rw [aF,aII,dE (by omega) (by omega) (by omega) (by omega),aC];rw [aF,aIJ,dE (by omega) (by omega) (by omega) (by omega),aC];rw [aF,aIK,w19 (by omega),dE (by omega) (by omega) (by omega) (by omega),aC];rw [aF,aIL,w19 (by omega),dE (by omega) (by omega) (by omega) (by omega),aC];rw [aF,aIM,aR,aRi];rw [aF,aRj];rw [aF,aIN,dE (by omega) (by omega) (by omega) (by omega),aC];rw [aF,aIO,dE (by omega) (by omega) (by omega) (by omega),aC];rw [aF,aIP,w19 (by omega),dE (by omega) (by omega) (by omega) (by omega),aC];rw [aF,aIQ,w19 (by omega),dE (by omega) (by omega) (by omega) (by omega),aC];rw [aF,aIR,w19 (by omega),dE (by omega) (by omega) (by omega) (by omega),aC];rw [aF,aIS,aR,aRk];rw [aF,aRl];rw [aF,aIT,dE (by omega) (by omega) (by omega) (by omega),aC];rw [aF,aIU,w19 (by omega),dE (by omega) (by omega) (by omega) (by omega),aC];rw [aF,aIV,w19 (by omega),dE (by omega) (by omega) (by omega) (by omega),aC];rw [aF,aIW,w19 (by omega),dE (by omega) (by omega) (by omega) (by omega),aC];rw [aF,aIX,w19 (by omega),dE (by omega) (by omega) (by omega) (by omega),aC];rw [aF,aIY,aR,aRm];rw [aF,aRn,aR,aXn];simp only [bS];rw [show x.a*y.a+x.b*(y.e*19)+x.c*(y.d*19)+x.d*(y.c*19)+x.e*(y.b*19)=VV x y from rfl,show x.a*y.b+x.b*y.a+x.c*(y.e*19)+x.d*(y.d*19)+x.e*(y.c*19)=VW x y from rfl,
  show x.a*y.c+x.b*y.b+x.c*y.a+x.d*(y.e*19)+x.e*(y.d*19)=VX x y from rfl,show x.a*y.d+x.b*y.c+x.c*y.b+x.d*y.a+x.e*(y.e*19)=VY x y from rfl,
  show x.a*y.e+x.b*y.d+x.c*y.c+x.d*y.b+x.e*y.a=S4 x y from rfl]
 rw [zS (s:=VV x y) (by omega),aC,zS (s:=VW x y) (by omega),aC,zS (s:=VX x y) (by omega),aC,zS (s:=VY x y) (by omega),aC,zS (s:=S4 x y) (by omega),aC];clear p00 p01 p02 p03 p04 p10 p11 p12 p13 p14 p20 p21 p22 p23 p24 p30 p31 p32 p33 p34 p40 p41 p42 p43 p44;dsimp only;rw [aF,aRo,qO (by omega),aF,aRp,qO (by omega),aF,aRq,qO (by omega),aF,aRr,qO (by omega),aF,aRs,w19 (by omega),qO (by omega),aF,aRt,aR,aBV];have hc:=DM (x:=⟨VV x y%2251799813685248+S4 x y / 2251799813685248*19,VW x y%2251799813685248+VV x y / 2251799813685248,VX x y%2251799813685248+VW x y / 2251799813685248,VY x y%2251799813685248+VX x y / 2251799813685248,S4 x y%2251799813685248+VY x y / 2251799813685248⟩)
  ⟨by simp only; omega,by simp only; omega,by simp only; omega,by simp only; omega,by simp only; omega⟩
 simp only [eF] at hc;rw [hc];rfl
theorem bF {x y:Fe} (h:cN x) (h2:cN y):iB [eF x,eF y]=some (aO x y):=by
 simp only [iB,Vf];exact Ew aO h h2
abbrev aRS:Cg:=aN3 (Fe) iB (λ t=>↑t.a) (λ t=>↑t.b) (λ t=>↑t.c) (λ t=>↑t.d) (λ t=>↑t.e)
theorem aI9:CfOk prog aRS.c:=gk <| aA nD <| aK
theorem CW:CallOk prog 80 aIp:=by
 refine i4 aI9 Tryz.func80 ?_;intro args t ht;obtain ⟨x,rfl,hx,rfl⟩:=pY (F:=λ x=>aO x x) ht;refine (aQX ..).trans ?_;have hc:=bF hx hx;simp only [eF] at hc;rw [hc];rfl
theorem j0 {x:Fe} (h:cN x):MR [eF x]=some (aO x x):=by
 simp only [MR,aIp];exact zR (λ x=>aO x x) h
abbrev aB6:Cg:=P2 (Fe) MP (λ t=>↑t.a) (λ t=>↑t.b) (λ t=>↑t.c) (λ t=>↑t.d) (λ t=>↑t.e) (Fe) MR (λ t=>↑t.a) (λ t=>↑t.b) (λ t=>↑t.c) (λ t=>↑t.d) (λ t=>↑t.e) (Fe) iB (λ t=>↑t.a) (λ t=>↑t.b) (λ t=>↑t.c) (λ t=>↑t.d) (λ t=>↑t.e)
theorem aJa:CfOk prog aB6.c:=gk <| aA CU <| aA CW <| aA nD <| aK
theorem aZW (low i:Nat) (hl:low <= 256) (hi:i < 8):(decide (d8 u64 (eK u64 (low:Int) (i:Int)) 1=1))=Nat.beq (low / 2 ^ i%2) 1:=by
 rw [mX low i (by omega),aKK _ (iI (pQ ..) (by omega)),uE];congr 1;rw [show (1:Int)=((1:Nat):Int) from rfl];exact propext Int.ofNat_inj
theorem aJb (x:Fe) (hx:cN x) (low:Nat) (hl:low <= 256) (ys:List Int) (fu:Nat):∀ (i n:Nat) (o:Fe),cN o->i < n->i <= 255 ->
  eS prog aB6 fu S9 (TA _ MP (λ t=>(t.a:Int)) (λ t=>(t.b:Int)) (λ t=>(t.c:Int)) (λ t=>(t.d:Int)) (λ t=>(t.e:Int)) _ MR (λ t=>(t.a:Int)) (λ t=>(t.b:Int)) (λ t=>(t.c:Int)) (λ t=>(t.d:Int)) (λ t=>(t.e:Int)) _ iB (λ t=>(t.a:Int)) (λ t=>(t.b:Int)) (λ t=>(t.c:Int)) (λ t=>(t.d:Int)) (λ t=>(t.e:Int)) fu) n
   (some (Eu (low:Int) ((i:Int) - 1) [(x.a:Int),x.b,x.c,x.d,x.e] ys [(o.a:Int),o.b,o.c,o.d,o.e]))=some (eF (Bh x low i o)):=by
 intro i
 induction i with
 | zero=>
  intro n o ho hn _;obtain ⟨n,rfl⟩:=aP (by omega:n ≠ 0);rw [aF,aBW,aH (by omega),aD,aR,aBX]; rfl
 | succ i ih=>
  intro n o ho hn hi;obtain ⟨n,rfl⟩:=aP (by omega:n ≠ 0);have hs:=j0 ho;have hm:=bF (aL ho ho) hx;simp only [eF] at hs hm;rw [show (((i+1:Nat):Int) - 1)=(i:Int) by omega,aF,aBW,aE (by omega),aB,hs,aC,bY (by omega) (by omega),Bh];by_cases c:8 <= i
  ·rw [aE (by omega:(8:Int) <= (i:Int)),aB,hm,aC,aE c,Fp,aB];exact ih n _ (aL (aL ho ho) hx) (by omega) (by omega)
  ·rw [aH (by omega:¬ (8:Int) <= (i:Int)),aD,aH (by omega),aD,aZW low i hl (by omega),aH c,Cu];cases Nat.beq (low / 2 ^ i%2) 1
   ·rw [aD,aD];exact ih n _ (aL ho ho) (by omega) (by omega)
   ·rw [aB,aB,hm,aC];exact ih n _ (aL (aL ho ho) hx) (by omega) (by omega)
theorem aB7:CallOk prog 161 aBG:=by
 refine aZ (fu:=λ _=>300) aJa Tryz.func161 ?_;intro args t ht;unfold aBG at ht;simp only at ht;split at ht
 ·rename_i a b c d e n less;obtain ⟨h1,h2⟩:=cC ht;simp only [aX,bG] at h1;obtain ⟨⟨h1,n0,n1⟩,l0,l1⟩:=h1;obtain ⟨x,rfl,rfl,rfl,rfl,rfl,hx,ex⟩:=eI h1;obtain ⟨n,rfl⟩:=b9 n0;obtain ⟨less,rfl⟩:=b9 l0;subst h2;rw [ex];refine (aQZ ..).trans ?_;have h1:=xJ (n:=1) (by decide);rw [show ((1:Nat):Int)=1 from rfl] at h1;rw [h1,aC,bY (by omega) (by omega),show (256:Int) - (less:Int)=((256 - less:Nat):Int) by omega,Vj (by omega)];exact aJb x hx (256 - less) (by omega) _ 300 n 300 (fe 1) (cV 1) (by omega) (by omega)
 ·cases ht
theorem aJc {x:Fe} {n less:Nat} (h:cN x) (hn:n <= 255) (hl:less <= 256):aQH [eF x,.int .i64 (n:Int),.int .u64 (less:Int)]=some (Bh x (256 - less) n (fe 1)):=by
 simp only [aQH,aBG,eF,bE];rw [eJ h,aE (by omega),aE (by omega)]; rfl
abbrev aRT:Cg:=aN4 (Fe) aQH (λ t=>↑t.a) (λ t=>↑t.b) (λ t=>↑t.c) (λ t=>↑t.d) (λ t=>↑t.e)
theorem aJd:CfOk prog aRT.c:=gk <| aA aB7 <| aK
theorem aB8:CallOk prog 128 S6:=by
 refine i4 aJd Tryz.func128 ?_;intro args t ht;obtain ⟨x,rfl,hx,rfl⟩:=pY (F:=Kr) ht;refine (aQ0 ..).trans ?_;have hc:=aJc (n:=252) (less:=3) hx (by omega) (by omega);simp only [eF] at hc;rw [show (252:Int)=((252:Nat):Int) from rfl,show (3:Int)=((3:Nat):Int) from rfl,hc];rfl
theorem Yy {x:Fe} (h:cN x):S7 [eF x]=some (Kr x):=by
 simp only [S7,S6];exact zR Kr h
set_option maxRecDepth 4000
theorem aRU {u:Nat} (h:u+19 < 18446744073709551616):u64.wrap ((u:Int)+19)=((u+19:Nat):Int):=qO (v:=19) h
theorem aZX {u:Nat} (h:19*u < 18446744073709551616):u64.wrap (19*(u:Int))=((19*u:Nat):Int):=by
 rw [show (19:Int)=((19:Nat):Int) from rfl,<-oA]; exact Vj h
abbrev aB9:Cg:=rJ (Fe) Yv (λ t=>↑t.a) (λ t=>↑t.b) (λ t=>↑t.c) (λ t=>↑t.d) (λ t=>↑t.e)
theorem aJe:CfOk prog aB9.c:=gk <| aA MX <| aK
theorem A3:CallOk prog 130 MQ:=by
 refine aZ (fu:=λ _=>6) aJe Tryz.func130 ?_;intro args t ht;obtain ⟨x,rfl,hx,rfl⟩:=pY (F:=DH) ht;have c1:=DM (MN hx);have c2:=DM (MN (H7 (MN hx)));have hm:fv (oK (oK x))%aJ=fv x%aJ:=by rw [DG,DG]
 obtain ⟨h1,h2,h3,h4,h5⟩:=aIo hx;generalize hy:oK (oK x)=y at *;simp only [eF] at c1 c2;refine (aQR ..).trans ?_;rw [c1,aC,c2,aC];show eS prog aB9 6 CS _ 6 (some _)=_;have b0:(y.a+19) / 2251799813685248 <= 1:=by omega
 generalize e0:(y.a+19) / 2251799813685248=o0 at *;have b1:(y.b+o0) / 2251799813685248 <= 1:=by omega
 generalize e1:(y.b+o0) / 2251799813685248=o1 at *;have b2:(y.c+o1) / 2251799813685248 <= 1:=by omega
 generalize e2:(y.c+o1) / 2251799813685248=o2 at *;have b3:(y.d+o2) / 2251799813685248 <= 1:=by omega
 generalize e3:(y.d+o2) / 2251799813685248=o3 at *;have b4:(y.e+o3) / 2251799813685248 <= 1:=by omega
 generalize e4:(y.e+o3) / 2251799813685248=o4 at *;rw [aRU (by omega),Bj,e0,aF,aRu,qO (by omega),Bj,e1,aF,aRv,qO (by omega),Bj,e2,aF,aRw,qO (by omega),Bj,e3,aF,aRx,qO (by omega),Bj,e4,aF,aRy,aR,aXo,aZX (by omega),qO (by omega)];rw [aF,aRz,Bj,qO (by omega),Yx _ (by omega),aF,aRA,Bj,qO (by omega),Yx _ (by omega),aF,aRB,Bj,qO (by omega),Yx _ (by omega),aF,aRC,Bj,qO (by omega),Yx _ (by omega),aF,aRD,aR,aXp,Yx _ (by omega)];have key:=aBA (a:=y.a) (b:=y.b) (c:=y.c) (d:=y.d) (e:=y.e) h1 h2 h3 h4 h5 e0.symm e1.symm e2.symm e3.symm e4.symm rfl rfl rfl rfl rfl;show _=some (eF (DH x));rw [DH,<-hm,show y=⟨y.a,y.b,y.c,y.d,y.e⟩ from rfl,key];rfl
theorem sX {x:Fe} (h:cN x):pD [eF x]=some (DH x):=by
 simp only [pD,MQ];exact zR DH h
theorem aXq (x:Fe):fv (DH x)=fv x%aJ:=B6 (fC (bK _ (by decide)) (by decide))
theorem eM (n:Nat):n%aJ < aJ:=bK _ (by decide)
abbrev aRV:Cg:=aN5 (Fe) pD (λ t=>↑t.a) (λ t=>↑t.b) (λ t=>↑t.c) (λ t=>↑t.d) (λ t=>↑t.e)
theorem aJf:CfOk prog aRV.c:=gk <| aA A3 <| aK
theorem aRW (x:Fe):decide (d8 u64 ((DH x).a:Int) 1=1)=oV x:=by
 have hl:(DH x).a < 2251799813685248:=aNU.1;have e:fv (DH x)%2=(DH x).a%2:=by simp only [fv]; omega
 rw [aKK _ (by omega),oV,<-aXq,e,uE];congr 1;rw [show (1:Int)=((1:Nat):Int) from rfl];exact propext Int.ofNat_inj
theorem TD:CallOk prog 81 aQJ:=by
 refine i4 aJf Tryz.func81 ?_;intro args t ht;obtain ⟨x,rfl,hx,rfl⟩:=pY (F:=oV) ht;have c:=sX hx;simp only [eF] at c;refine (aQ1 ..).trans ?_;rw [c,aC,aRW];rfl
theorem DN {x:Fe} (h:cN x):Yw [eF x]=some (oV x):=by
 simp only [Yw,aQJ];exact zR oV h
theorem aCa {m n:Nat} (hm:m < aJ) (hn:n < aJ):(([((fe m).a:Int),(fe m).b,(fe m).c,(fe m).d,(fe m).e]:List Int)=[((fe n).a:Int),(fe n).b,(fe n).c,(fe n).d,(fe n).e]) ↔ m=n:=by
 constructor
 ·intro h;simp only [List.cons.injEq,Int.ofNat_inj,and_true] at h;obtain ⟨h1,h2,h3,h4,h5⟩:=h;have:fe m=fe n:=by
   cases hm':fe m;cases hn':fe n;rw [hm',hn'] at h1 h2 h3 h4 h5;simp only at h1 h2 h3 h4 h5;rw [h1,h2,h3,h4,h5]
  have:=dQ fv this;rwa [B6 (fC hm (by decide)),B6 (fC hn (by decide))] at this
 ·intro h;rw [h]
theorem aJg:fe 0=f0:=rfl
abbrev aRX:Cg:=aN6 (Fe) pD (λ t=>↑t.a) (λ t=>↑t.b) (λ t=>↑t.c) (λ t=>↑t.d) (λ t=>↑t.e)
theorem aJh:CfOk prog aRX.c:=gk <| aA A3 <| aK
theorem aCb:CallOk prog 119 aIq:=by
 refine i4 aJh Tryz.func119 ?_;intro args t ht;obtain ⟨x,rfl,hx,rfl⟩:=pY (F:=Gn) ht;have c:=sX hx;simp only [eF] at c;refine (aQ2 ..).trans ?_;rw [c,aC];have e:=aCa (eM (fv x)) (n:=0) (by decide);rw [aJg] at e;show some (AV.bool (decide ([((DH x).a:Int),(DH x).b,(DH x).c,(DH x).d,(DH x).e]=[((f0.a:Nat):Int),(f0.b:Nat),(f0.c:Nat),(f0.d:Nat),(f0.e:Nat)])))=some (AV.bool (Gn x));rw [Gn,uE,DH,j7.2 e]
theorem aJi {x:Fe} (h:cN x):aQK [eF x]=some (Gn x):=by
 simp only [aQK,aIq];exact zR Gn h
abbrev aRY:Cg:=aN7 (Fe) pD (λ t=>↑t.a) (λ t=>↑t.b) (λ t=>↑t.c) (λ t=>↑t.d) (λ t=>↑t.e)
theorem aJj:CfOk prog aRY.c:=gk <| aA A3 <| aK
theorem TE:CallOk prog 129 aIr:=by
 refine i4 aJj Tryz.func129 ?_;intro args t ht;obtain ⟨x,y,rfl,hx,hy,rfl⟩:=vW (F:=kJ) ht;have c:=sX hx;have c2:=sX hy;simp only [eF] at c c2;refine (aQ3 ..).trans ?_;rw [c,aC,c2,aC];have e:=aCa (eM (fv x)) (eM (fv y));show some (AV.bool (decide ([((DH x).a:Int),(DH x).b,(DH x).c,(DH x).d,(DH x).e]=[((DH y).a:Int),(DH y).b,(DH y).c,(DH y).d,(DH y).e])))=some (AV.bool (kJ x y));rw [kJ,uE,DH,DH,j7.2 e]
theorem DO {x y:Fe} (h:cN x) (h2:cN y):aIs [eF x,eF y]=some (kJ x y):=by
 simp only [aIs,aIr];exact Ew kJ h h2
abbrev aRZ:Cg:=aN8 (Bool) Yw (λ t=>t) (Fe) H8 (λ t=>↑t.a) (λ t=>↑t.b) (λ t=>↑t.c) (λ t=>↑t.d) (λ t=>↑t.e)
theorem aJk:CfOk prog aRZ.c:=gk <| aA TD <| aA A2 <| aK
theorem Gy:CallOk prog 85 aBH:=by
 refine i4 aJk Tryz.func85 ?_;intro args t ht;obtain ⟨x,rfl,hx,rfl⟩:=pY (F:=vU) ht;have c:=DN hx;have c2:=sW hx;simp only [eF] at c c2;refine (aQ4 ..).trans ?_;rw [c,aC];show _=some (eF (vU x));rw [vU];cases oV x
 ·rfl
 ·rw [aB,c2,aC]; rfl
theorem zT {x:Fe} (h:cN x):F6 [eF x]=some (vU x):=by
 simp only [F6,aBH];exact zR vU h
end
end Go.Eng
