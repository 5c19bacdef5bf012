import Derived.Test.YteipjabipehbpaaGreatPLT
import Derived.Test.YteipjabipehbpaaGreatZS0
namespace Go.Eng
open Go.IntKind (u64 i64 u8)
noncomputable section
set_option linter.unusedVariables false
abbrev P25:Nat:=57896044618658097711785492504343953926634992332820282019728792003956564819949
structure Fe where
 a:Nat
 b:Nat
 c:Nat
 d:Nat
 e:Nat
def fv (x:Fe):Nat:=x.a+2251799813685248*x.b+5070602400912917605986812821504*x.c+11417981541647679048466287755595961091061972992*x.d+25711008708143844408671393477458601640355247900524685364822016*x.e
def fe (n:Nat):Fe:=⟨n%2251799813685248,n / 2251799813685248%2251799813685248,n / 5070602400912917605986812821504%2251799813685248,n / 11417981541647679048466287755595961091061972992%2251799813685248,n / 25711008708143844408671393477458601640355247900524685364822016%2251799813685248⟩
def fOk (x:Fe):Prop:=x.a <= 2251799813947392 /\ x.b <= 2251799813947392 /\ x.c <= 2251799813947392 /\ x.d <= 2251799813947392 /\ x.e <= 2251799813947392
def f64 (x:Fe):Prop:=x.a < 18446744073709551616 /\ x.b < 18446744073709551616 /\ x.c < 18446744073709551616 /\ x.d < 18446744073709551616 /\ x.e < 18446744073709551616
def cryF (x:Fe):Fe:=⟨x.a%2251799813685248+x.e / 2251799813685248*19,x.b%2251799813685248+x.a / 2251799813685248,x.c%2251799813685248+x.b / 2251799813685248,x.d%2251799813685248+x.c / 2251799813685248,x.e%2251799813685248+x.d / 2251799813685248⟩
theorem fOk_64 {x:Fe} (h:fOk x):f64 x:=by
 obtain ⟨h1,h2,h3,h4,h5⟩:=h
 refine ⟨?_,?_,?_,?_,?_⟩ <;> omega
theorem cry_ok {x:Fe} (h:f64 x):fOk (cryF x):=by
 obtain ⟨h1,h2,h3,h4,h5⟩:=h
 simp only [fOk,cryF]
 refine ⟨?_,?_,?_,?_,?_⟩ <;> omega
theorem cry_val (x:Fe):fv (cryF x)+P25*(x.e / 2251799813685248)=fv x:=by
 simp only [fv,cryF,P25]
 have ha:=Nat.div_add_mod x.a 2251799813685248
 have hb:=Nat.div_add_mod x.b 2251799813685248
 have hc:=Nat.div_add_mod x.c 2251799813685248
 have hd:=Nat.div_add_mod x.d 2251799813685248
 have he:=Nat.div_add_mod x.e 2251799813685248
 omega
theorem cry_mod (x:Fe):fv (cryF x)%P25=fv x%P25:=by
 rw [<-cry_val x,Nat.add_mul_mod_self_left]
theorem fe_lt {n:Nat}:(fe n).a < 2251799813685248 /\ (fe n).b < 2251799813685248 /\ (fe n).c < 2251799813685248 /\ (fe n).d < 2251799813685248 /\ (fe n).e < 2251799813685248:=by
 simp only [fe]
 refine ⟨?_,?_,?_,?_,?_⟩ <;> exact Nat.mod_lt _ (by decide)
theorem fe_ok (n:Nat):fOk (fe n):=by
 obtain ⟨h1,h2,h3,h4,h5⟩:=@fe_lt n
 refine ⟨?_,?_,?_,?_,?_⟩ <;> omega
theorem dd (n k:Nat):n / k / 2251799813685248=n / (k*2251799813685248):=Nat.div_div_eq_div_mul ..
theorem fv_fe {n:Nat} (h:n < 57896044618658097711785492504343953926634992332820282019728792003956564819968):fv (fe n)=n:=by
 simp only [fv,fe]
 have e1:=dd n 2251799813685248
 have e2:=dd n 5070602400912917605986812821504
 have e3:=dd n 11417981541647679048466287755595961091061972992
 simp only [Nat.reduceMul] at e1 e2 e3
 have h4:n / 25711008708143844408671393477458601640355247900524685364822016 < 2251799813685248:=by omega
 rw [<-e1,<-e2,<-e3] at *
 omega
theorem fe_fv {x:Fe} (h:x.a < 2251799813685248 /\ x.b < 2251799813685248 /\ x.c < 2251799813685248 /\ x.d < 2251799813685248 /\ x.e < 2251799813685248):fe (fv x)=x:=by
 obtain ⟨a,b,c,d,e⟩:=x
 obtain ⟨h1,h2,h3,h4,h5⟩:=h
 simp only at h1 h2 h3 h4 h5
 have e1:=dd (fv ⟨a,b,c,d,e⟩) 2251799813685248
 have e2:=dd (fv ⟨a,b,c,d,e⟩) 5070602400912917605986812821504
 have e3:=dd (fv ⟨a,b,c,d,e⟩) 11417981541647679048466287755595961091061972992
 simp only [Nat.reduceMul] at e1 e2 e3
 have g1:fv ⟨a,b,c,d,e⟩ / 2251799813685248=b+2251799813685248*c+5070602400912917605986812821504*d+11417981541647679048466287755595961091061972992*e:=by simp only [fv]; omega
 have g2:fv ⟨a,b,c,d,e⟩ / 5070602400912917605986812821504=c+2251799813685248*d+5070602400912917605986812821504*e:=by rw [<-e1,g1]; omega
 have g3:fv ⟨a,b,c,d,e⟩ / 11417981541647679048466287755595961091061972992=d+2251799813685248*e:=by rw [<-e2,g2]; omega
 have g4:fv ⟨a,b,c,d,e⟩ / 25711008708143844408671393477458601640355247900524685364822016=e:=by rw [<-e3,g3]; omega
 simp only [fe,g1,g2,g3,g4,Fe.mk.injEq]
 refine ⟨?_,?_,?_,?_,?_⟩
 ·simp only [fv]; omega
 all_goals omega
def addF (x y:Fe):Fe:=cryF ⟨x.a+y.a,x.b+y.b,x.c+y.c,x.d+y.d,x.e+y.e⟩
def subF (x y:Fe):Fe:=cryF ⟨x.a+(4503599627370458 - y.a),x.b+(4503599627370494 - y.b),x.c+(4503599627370494 - y.c),x.d+(4503599627370494 - y.d),x.e+(4503599627370494 - y.e)⟩
theorem add_ok {x y:Fe} (hx:fOk x) (hy:fOk y):fOk (addF x y):=by
 obtain ⟨h1,h2,h3,h4,h5⟩:=hx
 obtain ⟨g1,g2,g3,g4,g5⟩:=hy
 refine cry_ok ⟨?_,?_,?_,?_,?_⟩ <;> simp only <;> omega
theorem add_mod (x y:Fe):fv (addF x y)%P25=(fv x+fv y)%P25:=by
 rw [addF,cry_mod]
 congr 1
 simp only [fv]; omega
theorem sub_ok {x y:Fe} (hx:fOk x):fOk (subF x y):=by
 obtain ⟨h1,h2,h3,h4,h5⟩:=hx
 refine cry_ok ⟨?_,?_,?_,?_,?_⟩ <;> simp only <;> omega
theorem sub_mod {x y:Fe} (hy:fOk y):(fv (subF x y)+fv y)%P25=fv x%P25:=by
 rw [subF,Nat.add_mod,cry_mod,<-Nat.add_mod]
 obtain ⟨g1,g2,g3,g4,g5⟩:=hy
 have:fv ⟨x.a+(4503599627370458 - y.a),x.b+(4503599627370494 - y.b),x.c+(4503599627370494 - y.c),x.d+(4503599627370494 - y.d),x.e+(4503599627370494 - y.e)⟩+fv y=fv x+P25*2:=by
  simp only [fv,P25]; omega
 rw [this,Nat.add_mul_mod_self_left]
def sF0 (x y:Fe):Nat:=x.a*y.a+x.b*(y.e*19)+x.c*(y.d*19)+x.d*(y.c*19)+x.e*(y.b*19)
def sF1 (x y:Fe):Nat:=x.a*y.b+x.b*y.a+x.c*(y.e*19)+x.d*(y.d*19)+x.e*(y.c*19)
def sF2 (x y:Fe):Nat:=x.a*y.c+x.b*y.b+x.c*y.a+x.d*(y.e*19)+x.e*(y.d*19)
def sF3 (x y:Fe):Nat:=x.a*y.d+x.b*y.c+x.c*y.b+x.d*y.a+x.e*(y.e*19)
def sF4 (x y:Fe):Nat:=x.a*y.e+x.b*y.d+x.c*y.c+x.d*y.b+x.e*y.a
def mulF (x y:Fe):Fe:=cryF ⟨sF0 x y%2251799813685248+sF4 x y / 2251799813685248*19,sF1 x y%2251799813685248+sF0 x y / 2251799813685248,sF2 x y%2251799813685248+sF1 x y / 2251799813685248,sF3 x y%2251799813685248+sF2 x y / 2251799813685248,sF4 x y%2251799813685248+sF3 x y / 2251799813685248⟩
theorem mul_le {a b:Nat} (ha:a <= 2251799813947392) (hb:b <= 42784196465000448):a*b <= 96341445639776675308685928431616:=Nat.le_trans (Nat.mul_le_mul ha hb) (by decide)
theorem mul_le2 {a b:Nat} (ha:a <= 2251799813947392) (hb:b <= 2251799813947392):a*b <= 5070602402093509226772943601664:=Nat.le_trans (Nat.mul_le_mul ha hb) (by decide)
theorem sF_lt {x y:Fe} (hx:fOk x) (hy:fOk y):sF0 x y < 649037107316853453566312041152512 /\ sF1 x y < 649037107316853453566312041152512 /\ sF2 x y < 649037107316853453566312041152512 /\ sF3 x y < 649037107316853453566312041152512 /\ sF4 x y <= 25353012010467546133864718008320:=by
 obtain ⟨h1,h2,h3,h4,h5⟩:=hx
 obtain ⟨g1,g2,g3,g4,g5⟩:=hy
 have q:∀ {a b:Nat},a <= 2251799813947392->b <= 2251799813947392->a*(b*19) <= 96341445639776675308685928431616:=fun ha hb=>mul_le ha (by omega)
 have r:∀ {a b:Nat},a <= 2251799813947392->b <= 2251799813947392->a*b <= 5070602402093509226772943601664:=fun ha hb=>mul_le2 ha hb
 simp only [sF0,sF1,sF2,sF3,sF4]
 have:=r h1 g1; have:=r h1 g2; have:=r h1 g3; have:=r h1 g4; have:=r h1 g5
 have:=r h2 g1; have:=r h2 g2; have:=r h2 g3; have:=r h2 g4; have:=q h2 g5
 have:=r h3 g1; have:=r h3 g2; have:=r h3 g3; have:=q h3 g4; have:=q h3 g5
 have:=r h4 g1; have:=r h4 g2; have:=q h4 g3; have:=q h4 g4; have:=q h4 g5
 have:=r h5 g1; have:=q h5 g2; have:=q h5 g3; have:=q h5 g4; have:=q h5 g5
 refine ⟨?_,?_,?_,?_,?_⟩ <;> omega
theorem mul_ok {x y:Fe} (hx:fOk x) (hy:fOk y):fOk (mulF x y):=by
 obtain ⟨h1,h2,h3,h4,h5⟩:=sF_lt hx hy
 refine cry_ok ⟨?_,?_,?_,?_,?_⟩ <;> simp only <;> omega
theorem mul_mod (x y:Fe):fv (mulF x y)%P25=fv x*fv y%P25:=by
 rw [mulF,cry_mod]
 have e1:fv ⟨sF0 x y%2251799813685248+sF4 x y / 2251799813685248*19,sF1 x y%2251799813685248+sF0 x y / 2251799813685248,sF2 x y%2251799813685248+sF1 x y / 2251799813685248,sF3 x y%2251799813685248+sF2 x y / 2251799813685248,sF4 x y%2251799813685248+sF3 x y / 2251799813685248⟩+P25*(sF4 x y / 2251799813685248)=fv ⟨sF0 x y,sF1 x y,sF2 x y,sF3 x y,sF4 x y⟩:=by
  simp only [fv,P25]
  generalize sF0 x y=s0,sF1 x y=s1,sF2 x y=s2,sF3 x y=s3,sF4 x y=s4
  omega
 have e2:fv ⟨sF0 x y,sF1 x y,sF2 x y,sF3 x y,sF4 x y⟩+P25*(x.b*y.e+x.c*y.d+x.d*y.c+x.e*y.b+2251799813685248*(x.c*y.e+x.d*y.d+x.e*y.c)+5070602400912917605986812821504*(x.d*y.e+x.e*y.d)+11417981541647679048466287755595961091061972992*(x.e*y.e))=fv x*fv y:=by
  simp only [fv,P25,sF0,sF1,sF2,sF3,sF4]
  grind
 rw [<-e2,Nat.add_mul_mod_self_left,<-e1,Nat.add_mul_mod_self_left]
def whF (x:Fe):Fe:=fe (fv x%57896044618658097711785492504343953926634992332820282019728792003956564819949)
theorem wh_fin {v r1 r2 o4 q4:Nat} (s1:v+19=r1+57896044618658097711785492504343953926634992332820282019728792003956564819968*o4) (s2:v+19*o4=r2+57896044618658097711785492504343953926634992332820282019728792003956564819968*q4)
  (l1:r1 < 57896044618658097711785492504343953926634992332820282019728792003956564819968) (l2:r2 < 57896044618658097711785492504343953926634992332820282019728792003956564819968)
  (lv:v < 115792089237316195423570985008687907853269984665640564039457584007913129639898) (b4:o4 <= 1) (e:o4=1->q4=o4):v%P25=r2:=by
 simp only [P25]
 rcases (by omega:o4=0 ∨ o4=1) with h | h
 ·omega
 ·have:=e h
  omega
theorem wh_arith {a b c d e o0 o1 o2 o3 o4 q0 q1 q2 q3 q4:Nat} (ha:a <= 2251799813685266) (hb:b <= 2251799813685248) (hc:c <= 2251799813685248) (hd:d <= 2251799813685248) (he:e <= 2251799813685248)
  (h0:o0=(a+19) / 2251799813685248) (h1:o1=(b+o0) / 2251799813685248) (h2:o2=(c+o1) / 2251799813685248) (h3:o3=(d+o2) / 2251799813685248) (h4:o4=(e+o3) / 2251799813685248)
  (g0:q0=(a+19*o4) / 2251799813685248) (g1:q1=(b+q0) / 2251799813685248) (g2:q2=(c+q1) / 2251799813685248) (g3:q3=(d+q2) / 2251799813685248) (g4:q4=(e+q3) / 2251799813685248) :
  fe (fv ⟨a,b,c,d,e⟩%P25)=⟨(a+19*o4)%2251799813685248,(b+q0)%2251799813685248,(c+q1)%2251799813685248,(d+q2)%2251799813685248,(e+q3)%2251799813685248⟩:=by
 rw [<-fe_fv (x:=⟨(a+19*o4)%2251799813685248,(b+q0)%2251799813685248,(c+q1)%2251799813685248,(d+q2)%2251799813685248,(e+q3)%2251799813685248⟩) ⟨Nat.mod_lt _ (by decide),Nat.mod_lt _ (by decide),Nat.mod_lt _ (by decide),Nat.mod_lt _ (by decide),Nat.mod_lt _ (by decide)⟩]
 congr 1
 have b0:o0 <= 1:=by omega
 have b1:o1 <= 1:=by omega
 have b2:o2 <= 1:=by omega
 have b3:o3 <= 1:=by omega
 have b4:o4 <= 1:=by omega
 have s1:fv ⟨a,b,c,d,e⟩+19=fv ⟨(a+19)%2251799813685248,(b+o0)%2251799813685248,(c+o1)%2251799813685248,(d+o2)%2251799813685248,(e+o3)%2251799813685248⟩+57896044618658097711785492504343953926634992332820282019728792003956564819968*o4:=by
  simp only [fv]; omega
 have s2:fv ⟨a,b,c,d,e⟩+19*o4=fv ⟨(a+19*o4)%2251799813685248,(b+q0)%2251799813685248,(c+q1)%2251799813685248,(d+q2)%2251799813685248,(e+q3)%2251799813685248⟩+57896044618658097711785492504343953926634992332820282019728792003956564819968*q4:=by
  simp only [fv]; omega
 have lt:∀ u v w x y:Nat,fv ⟨u%2251799813685248,v%2251799813685248,w%2251799813685248,x%2251799813685248,y%2251799813685248⟩ < 57896044618658097711785492504343953926634992332820282019728792003956564819968:=by
  intro u v w x y
  simp only [fv]; omega
 have l1:=lt (a+19) (b+o0) (c+o1) (d+o2) (e+o3)
 have l2:=lt (a+19*o4) (b+q0) (c+q1) (d+q2) (e+q3)
 have lv:fv ⟨a,b,c,d,e⟩ < 115792089237316195423570985008687907853269984665640564039457584007913129639898:=by simp only [fv]; omega
 refine wh_fin s1 s2 l1 l2 lv b4 fun h=>?_
 have e0:q0=o0:=by rw [g0,h0,h]
 have e1:q1=o1:=by rw [g1,h1,e0]
 have e2:q2=o2:=by rw [g2,h2,e1]
 have e3:q3=o3:=by rw [g3,h3,e2]
 rw [g4,h4,e3]
theorem cry2_lt {x:Fe} (h:fOk x):(cryF (cryF x)).a <= 2251799813685266 /\ (cryF (cryF x)).b <= 2251799813685248 /\ (cryF (cryF x)).c <= 2251799813685248 /\ (cryF (cryF x)).d <= 2251799813685248 /\ (cryF (cryF x)).e <= 2251799813685248:=by
 obtain ⟨h1,h2,h3,h4,h5⟩:=cry_ok (fOk_64 h)
 generalize cryF x=y at *
 simp only [cryF]
 refine ⟨?_,?_,?_,?_,?_⟩ <;> omega
def powF (x:Fe) (low:Nat):Nat->Fe->Fe
 | 0,o=>o
 | i+1,o=>powF x low i (cond (decide (8 <= i) || Nat.beq (low / 2 ^ i%2) 1) (mulF (mulF o o) x) (mulF o o))
theorem pow_ok {x:Fe} {low:Nat} (hx:fOk x):∀ {i:Nat} {o:Fe},fOk o->fOk (powF x low i o):=by
 intro i
 induction i with
 | zero=>intro o h; exact h
 | succ i ih=>
  intro o h
  refine ih ?_
  cases (decide (8 <= i) || Nat.beq (low / 2 ^ i%2) 1)
  ·exact mul_ok h h
  ·exact mul_ok (mul_ok h h) hx
open Go Go.Proofs
set_option linter.unusedSimpArgs false
def rMul64:List AV->Option (Int × Int):=sMul64.run
def rAdd64:List AV->Option (Int × Int):=sAdd64.run
def eF (x:Fe):AV:=.agg (.ints .u64 [(x.a:Int),(x.b:Int),(x.c:Int),(x.d:Int),(x.e:Int)]) 5
def inF (a b c d e:Int):Bool:=decide (0 <= a /\ a <= 2251799813947392 /\ 0 <= b /\ b <= 2251799813947392 /\ 0 <= c /\ c <= 2251799813947392 /\ 0 <= d /\ d <= 2251799813947392 /\ 0 <= e /\ e <= 2251799813947392)
def inG (a b c d e:Int):Bool:=in64 a && in64 b && in64 c && in64 d && in64 e
def toF (a b c d e:Int):Fe:=⟨a.toNat,b.toNat,c.toNat,d.toNat,e.toNat⟩
def runF1 {T:Type} (F:Fe->T):List AV->Option T
 | [.c (.s (.pl (.agg (.ints .u64 [a,b,c,d,e]) 5)))]=>cond (inF a b c d e) (some (F (toF a b c d e))) none
 | _=>none
def runG1 {T:Type} (F:Fe->T):List AV->Option T
 | [.c (.s (.pl (.agg (.ints .u64 [a,b,c,d,e]) 5)))]=>cond (inG a b c d e) (some (F (toF a b c d e))) none
 | _=>none
def runF2 {T:Type} (F:Fe->Fe->T):List AV->Option T
 | [.c (.s (.pl (.agg (.ints .u64 [a,b,c,d,e]) 5))),.c (.s (.pl (.agg (.ints .u64 [a',b',c',d',e']) 5)))]=>cond (inF a b c d e && inF a' b' c' d' e') (some (F (toF a b c d e) (toF a' b' c' d' e'))) none
 | _=>none
def sPadd:Summ where
 T:=Nat
 run:=fun
  | [.c (.s (.pl (.agg (.ints .u64 [h,l]) 2))),.c (.s (.pl (.int .u64 x))),.c (.s (.pl (.int .u64 y)))]=>
   cond (in64 h && in64 l && in64 x && in64 y && Nat.blt (18446744073709551616*h.toNat+l.toNat+x.toNat*y.toNat) 340282366920938463463374607431768211456) (some (18446744073709551616*h.toNat+l.toNat+x.toNat*y.toNat)) none
  | _=>none
 enc:=fun t=>.agg (.ints .u64 [((t / 18446744073709551616:Nat):Int),((t%18446744073709551616:Nat):Int)]) 2
def rPadd:List AV->Option Nat:=sPadd.run
def sPcut:Summ where
 T:=Nat × Nat
 run:=fun
  | [.c (.s (.pl (.agg (.ints .u64 [h,l]) 2)))]=>cond (in64 h && in64 l && decide (h < 2251799813685248)) (some ((18446744073709551616*h.toNat+l.toNat)%2251799813685248,(18446744073709551616*h.toNat+l.toNat) / 2251799813685248)) none
  | _=>none
 enc:=fun t=>.tup [.s (.pl (.int .u64 (t.1:Int))),.s (.pl (.int .u64 (t.2:Int)))]
def rPcut:List AV->Option (Nat × Nat):=sPcut.run
def sFOf:Summ where
 T:=Fe
 run:=fun
  | [.c (.s (.pl (.int .u64 n)))]=>cond (in64 n) (some (fe n.toNat)) none
  | _=>none
 enc:=eF
def rFOf:List AV->Option Fe:=sFOf.run
def sCry:Summ:={ T:=Fe,run:=runG1 cryF,enc:=eF }
def rCry:List AV->Option Fe:=sCry.run
def sFWhole:Summ:={ T:=Fe,run:=runF1 whF,enc:=eF }
def rFWhole:List AV->Option Fe:=sFWhole.run
def sFAdd:Summ:={ T:=Fe,run:=runF2 addF,enc:=eF }
def rFAdd:List AV->Option Fe:=sFAdd.run
def sFSub:Summ:={ T:=Fe,run:=runF2 subF,enc:=eF }
def rFSub:List AV->Option Fe:=sFSub.run
def f0:Fe:=⟨0,0,0,0,0⟩
def sFNeg:Summ:={ T:=Fe,run:=runF1 fun x=>subF f0 x,enc:=eF }
def rFNeg:List AV->Option Fe:=sFNeg.run
def sFMul:Summ:={ T:=Fe,run:=runF2 mulF,enc:=eF }
def rFMul:List AV->Option Fe:=sFMul.run
def sFSq:Summ:={ T:=Fe,run:=runF1 fun x=>mulF x x,enc:=eF }
def rFSq:List AV->Option Fe:=sFSq.run
def sPow:Summ where
 T:=Fe
 run:=fun
  | [.c (.s (.pl (.agg (.ints .u64 [a,b,c,d,e]) 5))),.c (.s (.pl (.int .i64 n))),.c (.s (.pl (.int .u64 less)))]=>
   cond (inF a b c d e && decide (0 <= n /\ n <= 255) && decide (0 <= less /\ less <= 256)) (some (powF (toF a b c d e) (256 - less.toNat) n.toNat (fe 1))) none
  | _=>none
 enc:=eF
def rPow:List AV->Option Fe:=sPow.run
def invF (x:Fe):Fe:=powF x 235 255 (fe 1)
def rootF (x:Fe):Fe:=powF x 253 252 (fe 1)
def sInv:Summ:={ T:=Fe,run:=runF1 invF,enc:=eF }
def rInv:List AV->Option Fe:=sInv.run
def sRootF:Summ:={ T:=Fe,run:=runF1 rootF,enc:=eF }
def rRootF:List AV->Option Fe:=sRootF.run
def oddF (x:Fe):Bool:=Nat.beq (fv x%P25%2) 1
def sOdd:Summ:={ T:=Bool,run:=runF1 oddF,enc:=fun t=>.bool t }
def rOdd:List AV->Option Bool:=sOdd.run
def zerF (x:Fe):Bool:=Nat.beq (fv x%P25) 0
def sZer:Summ:={ T:=Bool,run:=runF1 zerF,enc:=fun t=>.bool t }
def rZer:List AV->Option Bool:=sZer.run
def samF (x y:Fe):Bool:=Nat.beq (fv x%P25) (fv y%P25)
def sSam:Summ:={ T:=Bool,run:=runF2 samF,enc:=fun t=>.bool t }
def rSam:List AV->Option Bool:=sSam.run
def absF (x:Fe):Fe:=cond (oddF x) (subF f0 x) x
def sFAbs:Summ:={ T:=Fe,run:=runF1 absF,enc:=eF }
def rFAbs:List AV->Option Fe:=sFAbs.run
def eB32 (t:List Int):AV:=.agg (.ints .u8 t) 32
def sFBytes:Summ:={ T:=List Int,run:=runF1 fun x=>lo 32 (fv x%P25),enc:=eB32 }
def rFBytes:List AV->Option (List Int):=sFBytes.run
def sWide:Summ:={ T:=Fe,run:=run1 fun a=>fe (val a%P25),enc:=eF }
def rWide:List AV->Option Fe:=sWide.run
def sFDec:Summ where
 T:=Fe
 run:=fun
  | [.c (.s (.pl (.str s)))]=>cond (decide (s.length <= 1099511627776)) (some (fe ((decE s).1%P25))) none
  | _=>none
 enc:=eF
def rFDec:List AV->Option Fe:=sFDec.run
def ok32 (a:List Int):Bool:=Nat.beq a.length 32 && okB a
def runB1 {T:Type} (F:List Int->T):List AV->Option T
 | [.c (.s (.pl (.agg (.ints .u8 a) 32)))]=>cond (ok32 a) (some (F a)) none
 | _=>none
abbrev T255:Nat:=57896044618658097711785492504343953926634992332820282019728792003956564819968
def looF (a:List Int):Fe:=fe (vB a%57896044618658097711785492504343953926634992332820282019728792003956564819968%P25)
def sLoose:Summ:={ T:=Fe,run:=runB1 looF,enc:=eF }
def rLoose:List AV->Option Fe:=sLoose.run
def parF (a:List Int):Fe × Int:=cond (Nat.blt (vB a) P25) (fe (vB a),0) (f0,7)
def sFParse:Summ:={ T:=Fe × Int,run:=runB1 parF,enc:=fun t=>.tup [.s (.pl (.agg (.ints .u64 [(t.1.a:Int),(t.1.b:Int),(t.1.c:Int),(t.1.d:Int),(t.1.e:Int)]) 5)),.s (.pl (.int .i64 t.2))] }
def rFParse:List AV->Option (Fe × Int):=sFParse.run
def iF:Fe:=fe 19681161376707505956807079304988542015446066515923890162744021073123829784752
def sFI:Summ where
 T:=Unit
 run:=fun
  | []=>some ()
  | _=>none
 enc:=fun _=>eF iF
def rFI:List AV->Option Unit:=sFI.run
def ratR (u v:Fe):Fe:=mulF (mulF u (mulF (mulF v v) v)) (rootF (mulF u (mulF (mulF (mulF (mulF v v) v) (mulF (mulF v v) v)) v)))
def ratF (u v:Fe):Fe × Bool :=
 (absF (cond (samF (mulF v (mulF (ratR u v) (ratR u v))) (subF f0 u) || samF (mulF v (mulF (ratR u v) (ratR u v))) (mulF (subF f0 u) iF)) (mulF (ratR u v) iF) (ratR u v)),
  samF (mulF v (mulF (ratR u v) (ratR u v))) u || samF (mulF v (mulF (ratR u v) (ratR u v))) (subF f0 u))
def sFRat:Summ:={ T:=Fe × Bool,run:=runF2 ratF,enc:=fun t=>.tup [.s (.pl (.agg (.ints .u64 [(t.1.a:Int),(t.1.b:Int),(t.1.c:Int),(t.1.d:Int),(t.1.e:Int)]) 5)),.s (.pl (.bool t.2))] }
def rFRat:List AV->Option (Fe × Bool):=sFRat.run
section
variable (T0:Type) (R0:List AV->Option T0) (f0a f0b:T0->Int) (T1:Type) (R1:List AV->Option T1) (f1a f1b:T1->Int)
def g_FPa:Cg:=⟨⟨gam [(nF100,⟨R0,fun t=>AV.tup [.s (.pl (.int .u64 (f0a t))),.s (.pl (.int .u64 (f0b t)))]⟩),(nF92,⟨R1,fun t=>AV.tup [.s (.pl (.int .u64 (f1a t))),.s (.pl (.int .u64 (f1b t)))]⟩)],[],noE⟩,[]⟩
theorem FPa_ev (fu:Nat) (p0 p1 x y:Int):afunc prog fF86 (g_FPa T0 R0 f0a f0b T1 R1 f1a f1b) fu [.agg (.ints .u64 [p0,p1]) 2,.int .u64 x,.int .u64 y]=(R0 [.int .u64 x,.int .u64 y]).bind fun t=>(R1 [.int .u64 p1,.int .u64 (f0b t),.int .u64 (0:Int)]).bind fun t_1=>some (AV.agg (.ints .u64 ([u64.wrap (u64.wrap (p0+f0a t)+f1b t_1)]++[f1a t_1])) 2):=by kernel_rfl
end
def g_FPc:Cg:=⟨⟨gam [],[],noE⟩,[]⟩
theorem FPc_ev (fu:Nat) (p0 p1:Int):afunc prog fF87 g_FPc fu [.agg (.ints .u64 [p0,p1]) 2]=some (AV.tup [.s (.pl (.int .u64 (bAnd .u64 p1 (2251799813685247:Int)))),.s (.pl (.int .u64 (bOr .u64 (bShl .u64 p0 (13:Int)) (bShr .u64 p1 (51:Int)))))]):=by kernel_rfl
def g_FOf:Cg:=⟨⟨gam [],[],noE⟩,[]⟩
theorem FOf_ev (fu:Nat) (n:Int):afunc prog fF35 g_FOf fu [.int .u64 n]=some (AV.agg (.ints .u64 [bAnd .u64 n (2251799813685247:Int),bShr .u64 n (51:Int),0,0,0]) 5):=by kernel_rfl
def g_FCa:Cg:=⟨⟨gam [],[],noE⟩,[(4,[1,2,3,8,9],[1,2,3]),(1000004,[6],[]),(9,[1,2,3,18],[1,2,3]),(1000009,[6],[])]⟩
theorem FCa_ev (fu:Nat) (a b c d e:Int):afunc prog fF88 g_FCa fu [.agg (.ints .u64 [a,b,c,d,e]) 5]=some (AV.agg (.ints .u64 [u64.wrap (bAnd .u64 a (2251799813685247:Int)+u64.wrap (bShr .u64 e (51:Int)*(19:Int))),u64.wrap (bAnd .u64 b (2251799813685247:Int)+bShr .u64 a (51:Int)),u64.wrap (bAnd .u64 c (2251799813685247:Int)+bShr .u64 b (51:Int)),u64.wrap (bAnd .u64 d (2251799813685247:Int)+bShr .u64 c (51:Int)),u64.wrap (bAnd .u64 e (2251799813685247:Int)+bShr .u64 d (51:Int))]) 5):=by kernel_rfl
section
variable (T0:Type) (R0:List AV->Option T0) (f0a f0b f0c f0d f0e:T0->Int)
def g_FWh:Cg:=⟨⟨gam [(nF88,⟨R0,fun t=>AV.agg (.ints .u64 [(f0a t),(f0b t),(f0c t),(f0d t),(f0e t)]) 5⟩)],[],noE⟩,[(5,[1,2,3,4],[1,2,3]),(10,[1,2,33],[1,2])]⟩
def FWh_s1 (v3 v4:Int) (x_0 x_1:List Int):St:={ tm:=[(1,.s (.ptr 0 0 5)),(2,.s (.ptr 1 0 5)),(3,.int .u64 v3),(4,.int .i64 v4)],hp:=[(0,{ ty:=33,n:=5,row:=Row.t (.ints .u64 x_0) }),(1,{ ty:=33,n:=5,row:=Row.t (.ints .u64 x_1) })],nx:=2,sz:=64 }
def FWh_b1:Code:=bodyL (codeAt [1,1,1,0,1,2] (codeF fF99))
def FWh_k1 (fu:Nat):=kAt prog (g_FWh T0 R0 f0a f0b f0c f0d f0e) fu [1,1,1,0,1,2] (codeF fF99) (kFin prog fF99)
abbrev FWh_L1 (fu:Nat) (v3 v4:Int) (x_0 x_1:List Int):=lpA prog (g_FWh T0 R0 f0a f0b f0c f0d f0e) fu FWh_b1 (FWh_k1 T0 R0 f0a f0b f0c f0d f0e fu ) fu (some (FWh_s1 v3 v4 x_0 x_1))
theorem FWh_ev (fu:Nat) (a b c d e:Int):afunc prog fF99 (g_FWh T0 R0 f0a f0b f0c f0d f0e) fu [.agg (.ints .u64 [a,b,c,d,e]) 5]=(R0 [.agg (.ints .u64 [a,b,c,d,e]) 5]).bind fun t=>(R0 [.agg (.ints .u64 [f0a t,f0b t,f0c t,f0d t,f0e t]) 5]).bind fun t=>FWh_L1 T0 R0 f0a f0b f0c f0d f0e fu (bShr .u64 (u64.wrap (f0a t+(19:Int))) (51:Int)) (1:Int) [f0a t,f0b t,f0c t,f0d t,f0e t] [(0:Int),0,0,0,0]:=by kernel_rfl
def FWh_o1e0 (v3:Int) (x_0 x_1:List Int):St:={ tm:=[(1,.s (.ptr 0 0 5)),(2,.s (.ptr 1 0 5)),(3,.int .u64 v3)],hp:=[(0,{ ty:=33,n:=5,row:=Row.t (.ints .u64 x_0) }),(1,{ ty:=33,n:=5,row:=Row.t (.ints .u64 x_1) })],nx:=2,sz:=64 }
def FWh_s2 (v33:Int) (x_0 x_1:List Int):St:={ tm:=[(1,.s (.ptr 0 0 5)),(2,.s (.ptr 1 0 5)),(33,.int .i64 v33)],hp:=[(0,{ ty:=33,n:=5,row:=Row.t (.ints .u64 x_0) }),(1,{ ty:=33,n:=5,row:=Row.t (.ints .u64 x_1) })],nx:=2,sz:=64 }
def FWh_b2:Code:=bodyL (codeAt [1,1,1,1,1,0,1,2] (codeF fF99))
def FWh_k2 (fu:Nat):=kAt prog (g_FWh T0 R0 f0a f0b f0c f0d f0e) fu [1,1,1,1,1,0,1,2] (codeF fF99) (kFin prog fF99)
def FWh_o2e2 (x_0 x_1:List Int):St:={ tm:=[(1,.s (.ptr 0 0 5)),(2,.s (.ptr 1 0 5))],hp:=[(0,{ ty:=33,n:=5,row:=Row.t (.ints .u64 x_0) }),(1,{ ty:=33,n:=5,row:=Row.t (.ints .u64 x_1) })],nx:=2,sz:=64 }
end
section
variable (T0:Type) (R0:List AV->Option T0) (f0a f0b f0c f0d f0e:T0->Int)
def g_FAd:Cg:=⟨⟨gam [(nF88,⟨R0,fun t=>AV.agg (.ints .u64 [(f0a t),(f0b t),(f0c t),(f0d t),(f0e t)]) 5⟩)],[],noE⟩,[(3,[2,3,4,6],[2,4]),(1000003,[6],[])]⟩
theorem FAd_ev (fu:Nat) (a b c d e f g h i j:Int):afunc prog fF41 (g_FAd T0 R0 f0a f0b f0c f0d f0e) fu [.agg (.ints .u64 [a,b,c,d,e]) 5,.agg (.ints .u64 [f,g,h,i,j]) 5]=(R0 [.agg (.ints .u64 [u64.wrap (a+f),u64.wrap (b+g),u64.wrap (c+h),u64.wrap (d+i),u64.wrap (e+j)]) 5]).bind fun t=>some (AV.agg (.ints .u64 [f0a t,f0b t,f0c t,f0d t,f0e t]) 5):=by kernel_rfl
end
section
variable (T0:Type) (R0:List AV->Option T0) (f0a f0b f0c f0d f0e:T0->Int)
def g_FSu:Cg:=⟨⟨gam [(nF88,⟨R0,fun t=>AV.agg (.ints .u64 [(f0a t),(f0b t),(f0c t),(f0d t),(f0e t)]) 5⟩)],[],noE⟩,[(3,[2,3,4,7],[2,4]),(1000003,[6],[])]⟩
theorem FSu_ev (fu:Nat) (a b c d e f g h i j:Int):afunc prog fF44 (g_FSu T0 R0 f0a f0b f0c f0d f0e) fu [.agg (.ints .u64 [a,b,c,d,e]) 5,.agg (.ints .u64 [f,g,h,i,j]) 5]=(R0 [.agg (.ints .u64 [u64.wrap (a+u64.wrap ((4503599627370458:Int) - f)),u64.wrap (b+u64.wrap ((4503599627370494:Int) - g)),u64.wrap (c+u64.wrap ((4503599627370494:Int) - h)),u64.wrap (d+u64.wrap ((4503599627370494:Int) - i)),u64.wrap (e+u64.wrap ((4503599627370494:Int) - j))]) 5]).bind fun t=>some (AV.agg (.ints .u64 [f0a t,f0b t,f0c t,f0d t,f0e t]) 5):=by kernel_rfl
end
section
variable (T0:Type) (R0:List AV->Option T0) (f0a f0b f0c f0d f0e:T0->Int)
def g_FNe:Cg:=⟨⟨gam [(nF44,⟨R0,fun t=>AV.agg (.ints .u64 [(f0a t),(f0b t),(f0c t),(f0d t),(f0e t)]) 5⟩)],[],noE⟩,[]⟩
theorem FNe_ev (fu:Nat) (a b c d e:Int):afunc prog fF43 (g_FNe T0 R0 f0a f0b f0c f0d f0e) fu [.agg (.ints .u64 [a,b,c,d,e]) 5]=(R0 [.agg (.ints .u64 [(0:Int),0,0,0,0]) 5,.agg (.ints .u64 [a,b,c,d,e]) 5]).bind fun t=>some (AV.agg (.ints .u64 [f0a t,f0b t,f0c t,f0d t,f0e t]) 5):=by kernel_rfl
end
section
variable (T0:Type) (R0:List AV->Option T0) (f0a f0b:T0->Int) (T1:Type) (R1:List AV->Option T1) (f1a f1b:T1->Int) (T2:Type) (R2:List AV->Option T2) (f2a f2b f2c f2d f2e:T2->Int)
def g_FMu:Cg:=⟨⟨gam [(nF86,⟨R0,fun t=>AV.agg (.ints .u64 [(f0a t),(f0b t)]) 2⟩),(nF87,⟨R1,fun t=>AV.tup [.s (.pl (.int .u64 (f1a t))),.s (.pl (.int .u64 (f1b t)))]⟩),(nF88,⟨R2,fun t=>AV.agg (.ints .u64 [(f2a t),(f2b t),(f2c t),(f2d t),(f2e t)]) 5⟩)],[],noE⟩,[(4,[3,4,5,17,18],[4,5]),(7,[3,4,5,6,7,17,18,23,24],[3,4,5,17,18]),(17,[4,10,11,50,51],[4,10,11]),(1000017,[6],[]),(22,[4,10,66,67],[4,10])]⟩
def FMu_s1 (x17:List Int) (v18:Int) (x_0 x_1 x_2:List Int):St:={ tm:=[(3,.s (.ptr 0 0 5)),(4,.s (.ptr 1 0 5)),(5,.s (.ptr 2 0 10)),(17,.agg (.ints .u64 x17) 5),(18,.int .i64 v18)],hp:=[(0,{ ty:=33,n:=5,row:=Row.t (.ints .u64 x_0) }),(1,{ ty:=33,n:=5,row:=Row.t (.ints .u64 x_1) }),(2,{ ty:=112,n:=10,row:=Row.t (.ints .u64 x_2) })],nx:=3,sz:=89 }
def FMu_b1:Code:=bodyL (codeAt [1,1,0,1,2] (codeF fF39))
def FMu_k1 (fu:Nat):=kAt prog (g_FMu T0 R0 f0a f0b T1 R1 f1a f1b T2 R2 f2a f2b f2c f2d f2e) fu [1,1,0,1,2] (codeF fF39) (kFin prog fF39)
abbrev FMu_L1 (fu:Nat) (x17:List Int) (v18:Int) (x_0 x_1 x_2:List Int):=lpA prog (g_FMu T0 R0 f0a f0b T1 R1 f1a f1b T2 R2 f2a f2b f2c f2d f2e) fu FMu_b1 (FMu_k1 T0 R0 f0a f0b T1 R1 f1a f1b T2 R2 f2a f2b f2c f2d f2e fu ) fu (some (FMu_s1 x17 v18 x_0 x_1 x_2))
theorem FMu_ev (fu:Nat) (a b c d e f g h i j:Int):afunc prog fF39 (g_FMu T0 R0 f0a f0b T1 R1 f1a f1b T2 R2 f2a f2b f2c f2d f2e) fu [.agg (.ints .u64 [a,b,c,d,e]) 5,.agg (.ints .u64 [f,g,h,i,j]) 5]=FMu_L1 T0 R0 f0a f0b T1 R1 f1a f1b T2 R2 f2a f2b f2c f2d f2e fu [a,b,c,d,e] (0:Int) [f,g,h,i,j] [(0:Int),0,0,0,0] [(0:Int),0,0,0,0,0,0,0,0,0]:=by kernel_rfl
def FMu_s2 (v6 v7:Int) (x17:List Int) (v18:Int) (x23:List Int) (v24:Int) (x_0 x_1 x_2:List Int):St:={ tm:=[(3,.s (.ptr 0 0 5)),(4,.s (.ptr 1 0 5)),(5,.s (.ptr 2 0 10)),(6,.int .i64 v6),(7,.int .u64 v7),(17,.agg (.ints .u64 x17) 5),(18,.int .i64 v18),(23,.agg (.ints .u64 x23) 5),(24,.int .i64 v24)],hp:=[(0,{ ty:=33,n:=5,row:=Row.t (.ints .u64 x_0) }),(1,{ ty:=33,n:=5,row:=Row.t (.ints .u64 x_1) }),(2,{ ty:=112,n:=10,row:=Row.t (.ints .u64 x_2) })],nx:=3,sz:=89 }
def FMu_b2:Code:=bodyL (codeAt [1,1,0,1,2,6,1,1,0,2,1,1,2] (codeF fF39))
def FMu_k2 {β:Type} (fu:Nat) (G:Option St->Option β) (H:Ex->Option St->Option β):=kAt prog (g_FMu T0 R0 f0a f0b T1 R1 f1a f1b T2 R2 f2a f2b f2c f2d f2e) fu [1,1,0,2,1,1,2] FMu_b1 (kRound (g_FMu T0 R0 f0a f0b T1 R1 f1a f1b T2 R2 f2a f2b f2c f2d f2e) FMu_b1 G H)
def FMu_o1e0 (x_0 x_1:List Int):St:={ tm:=[(4,.s (.ptr 0 0 5)),(5,.s (.ptr 1 0 10))],hp:=[(0,{ ty:=33,n:=5,row:=Row.t (.ints .u64 x_0) }),(1,{ ty:=112,n:=10,row:=Row.t (.ints .u64 x_1) })],nx:=2,sz:=89 }
def FMu_o2e2 (x17:List Int) (v18:Int) (x_0 x_1 x_2:List Int):St:={ tm:=[(3,.s (.ptr 0 0 5)),(4,.s (.ptr 1 0 5)),(5,.s (.ptr 2 0 10)),(17,.agg (.ints .u64 x17) 5),(18,.int .i64 v18)],hp:=[(0,{ ty:=33,n:=5,row:=Row.t (.ints .u64 x_0) }),(1,{ ty:=33,n:=5,row:=Row.t (.ints .u64 x_1) }),(2,{ ty:=112,n:=10,row:=Row.t (.ints .u64 x_2) })],nx:=3,sz:=89 }
def FMu_s4 (x66:List Int) (v67:Int) (x_0 x_1:List Int):St:={ tm:=[(4,.s (.ptr 0 0 5)),(10,.s (.ptr 1 0 5)),(66,.agg (.ints .u64 x66) 5),(67,.int .i64 v67)],hp:=[(0,{ ty:=33,n:=5,row:=Row.t (.ints .u64 x_0) }),(1,{ ty:=33,n:=5,row:=Row.t (.ints .u64 x_1) })],nx:=2,sz:=89 }
def FMu_b4:Code:=bodyL (codeAt [1,1,1,1,1,1,0,1,2] (codeF fF39))
def FMu_k4 (fu:Nat):=kAt prog (g_FMu T0 R0 f0a f0b T1 R1 f1a f1b T2 R2 f2a f2b f2c f2d f2e) fu [1,1,1,1,1,1,0,1,2] (codeF fF39) (kFin prog fF39)
def FMu_o4e6 (x_0 x_1:List Int):St:={ tm:=[(4,.s (.ptr 0 0 5)),(10,.s (.ptr 1 0 5))],hp:=[(0,{ ty:=33,n:=5,row:=Row.t (.ints .u64 x_0) }),(1,{ ty:=33,n:=5,row:=Row.t (.ints .u64 x_1) })],nx:=2,sz:=89 }
theorem FMu_c4e6 (fu:Nat) (x_0 x_1:List Int):FMu_k4 T0 R0 f0a f0b T1 R1 f1a f1b T2 R2 f2a f2b f2c f2d f2e fu  (Ex.exit 6) (FMu_o4e6 x_0 x_1)=(R2 [.agg (.ints .u64 x_1) 5]).bind fun t=>some (AV.agg (.ints .u64 [f2a t,f2b t,f2c t,f2d t,f2e t]) 5):=by kernel_rfl
end
section
variable (T0:Type) (R0:List AV->Option T0) (f0a f0b f0c f0d f0e:T0->Int)
def g_FSq:Cg:=⟨⟨gam [(nF39,⟨R0,fun t=>AV.agg (.ints .u64 [(f0a t),(f0b t),(f0c t),(f0d t),(f0e t)]) 5⟩)],[],noE⟩,[]⟩
theorem FSq_ev (fu:Nat) (a b c d e:Int):afunc prog fF40 (g_FSq T0 R0 f0a f0b f0c f0d f0e) fu [.agg (.ints .u64 [a,b,c,d,e]) 5]=(R0 [.agg (.ints .u64 [a,b,c,d,e]) 5,.agg (.ints .u64 [a,b,c,d,e]) 5]).bind fun t=>some (AV.agg (.ints .u64 [f0a t,f0b t,f0c t,f0d t,f0e t]) 5):=by kernel_rfl
end
section
variable (T0:Type) (R0:List AV->Option T0) (f0a f0b f0c f0d f0e:T0->Int) (T1:Type) (R1:List AV->Option T1) (f1a f1b f1c f1d f1e:T1->Int) (T2:Type) (R2:List AV->Option T2) (f2a f2b f2c f2d f2e:T2->Int)
def g_FPo:Cg:=⟨⟨gam [(nF35,⟨R0,fun t=>AV.agg (.ints .u64 [(f0a t),(f0b t),(f0c t),(f0d t),(f0e t)]) 5⟩),(nF40,⟨R1,fun t=>AV.agg (.ints .u64 [(f1a t),(f1b t),(f1c t),(f1d t),(f1e t)]) 5⟩),(nF39,⟨R2,fun t=>AV.agg (.ints .u64 [(f2a t),(f2b t),(f2c t),(f2d t),(f2e t)]) 5⟩)],[],noE⟩,[(5,[3,6,7,8,9],[6,7])]⟩
def FPo_s1 (v8 v9:Int) (x_0 x_1 x_2:List Int):St:={ tm:=[(3,.s (.ptr 0 0 5)),(6,.s (.ptr 1 0 5)),(7,.s (.ptr 2 0 5)),(8,.int .u64 v8),(9,.int .i64 v9)],hp:=[(0,{ ty:=33,n:=5,row:=Row.t (.ints .u64 x_0) }),(1,{ ty:=33,n:=5,row:=Row.t (.ints .u64 x_1) }),(2,{ ty:=33,n:=5,row:=Row.t (.ints .u64 x_2) })],nx:=3,sz:=34 }
def FPo_b1:Code:=bodyL (codeAt [1,1,1,0,1,2] (codeF fF125))
def FPo_k1 (fu:Nat):=kAt prog (g_FPo T0 R0 f0a f0b f0c f0d f0e T1 R1 f1a f1b f1c f1d f1e T2 R2 f2a f2b f2c f2d f2e) fu [1,1,1,0,1,2] (codeF fF125) (kFin prog fF125)
abbrev FPo_L1 (fu:Nat) (v8 v9:Int) (x_0 x_1 x_2:List Int):=lpA prog (g_FPo T0 R0 f0a f0b f0c f0d f0e T1 R1 f1a f1b f1c f1d f1e T2 R2 f2a f2b f2c f2d f2e) fu FPo_b1 (FPo_k1 T0 R0 f0a f0b f0c f0d f0e T1 R1 f1a f1b f1c f1d f1e T2 R2 f2a f2b f2c f2d f2e fu ) fu (some (FPo_s1 v8 v9 x_0 x_1 x_2))
theorem FPo_ev (fu:Nat) (a b c d e n l:Int):afunc prog fF125 (g_FPo T0 R0 f0a f0b f0c f0d f0e T1 R1 f1a f1b f1c f1d f1e T2 R2 f2a f2b f2c f2d f2e) fu [.agg (.ints .u64 [a,b,c,d,e]) 5,.int .i64 n,.int .u64 l]=(R0 [.int .u64 (1:Int)]).bind fun t=>FPo_L1 T0 R0 f0a f0b f0c f0d f0e T1 R1 f1a f1b f1c f1d f1e T2 R2 f2a f2b f2c f2d f2e fu (u64.wrap ((256:Int) - l)) (i64.wrap (n - (1:Int))) [a,b,c,d,e] [(0:Int),0,0,0,0] [f0a t,f0b t,f0c t,f0d t,f0e t]:=by kernel_rfl
def FPo_o1e0 (x_0 x_1:List Int):St:={ tm:=[(6,.s (.ptr 0 0 5)),(7,.s (.ptr 1 0 5))],hp:=[(0,{ ty:=33,n:=5,row:=Row.t (.ints .u64 x_0) }),(1,{ ty:=33,n:=5,row:=Row.t (.ints .u64 x_1) })],nx:=2,sz:=34 }
theorem FPo_r1 {β:Type} (fu:Nat) (G:Option St->Option β) (H:Ex->Option St->Option β) (v8 v9:Int) (x_0 x_1 x_2:List Int):lpR prog (g_FPo T0 R0 f0a f0b f0c f0d f0e T1 R1 f1a f1b f1c f1d f1e T2 R2 f2a f2b f2c f2d f2e) fu FPo_b1 G H (FPo_s1 v8 v9 x_0 x_1 x_2)=bif decide ((0:Int) <= v9) then (R1 [.agg (.ints .u64 x_2) 5]).bind fun t=>bif decide ((8:Int) <= v9) then (R2 [.agg (.ints .u64 [f1a t,f1b t,f1c t,f1d t,f1e t]) 5,.agg (.ints .u64 x_0) 5]).bind fun t=>G (some (FPo_s1 v8 (i64.wrap (v9 - (1:Int))) x_0 x_1 [f2a t,f2b t,f2c t,f2d t,f2e t])) else bif decide (v9 < (0:Int)) then none else bif decide (bAnd .u64 (bShr .u64 v8 v9) (1:Int)=(1:Int)) then (R2 [.agg (.ints .u64 [f1a t,f1b t,f1c t,f1d t,f1e t]) 5,.agg (.ints .u64 x_0) 5]).bind fun t=>G (some (FPo_s1 v8 (i64.wrap (v9 - (1:Int))) x_0 x_1 [f2a t,f2b t,f2c t,f2d t,f2e t])) else G (some (FPo_s1 v8 (i64.wrap (v9 - (1:Int))) x_0 x_1 [f1a t,f1b t,f1c t,f1d t,f1e t])) else H (Ex.exit 0) (some (FPo_o1e0 x_1 x_2)):=by kernel_rfl
theorem FPo_c1e0 (fu:Nat) (x_0 x_1:List Int):FPo_k1 T0 R0 f0a f0b f0c f0d f0e T1 R1 f1a f1b f1c f1d f1e T2 R2 f2a f2b f2c f2d f2e fu  (Ex.exit 0) (FPo_o1e0 x_0 x_1)=some (AV.agg (.ints .u64 x_1) 5):=by kernel_rfl
end
section
variable (T0:Type) (R0:List AV->Option T0) (f0a f0b f0c f0d f0e:T0->Int)
def g_FIn:Cg:=⟨⟨gam [(nF125,⟨R0,fun t=>AV.agg (.ints .u64 [(f0a t),(f0b t),(f0c t),(f0d t),(f0e t)]) 5⟩)],[],noE⟩,[]⟩
theorem FIn_ev (fu:Nat) (a b c d e:Int):afunc prog fF110 (g_FIn T0 R0 f0a f0b f0c f0d f0e) fu [.agg (.ints .u64 [a,b,c,d,e]) 5]=(R0 [.agg (.ints .u64 [a,b,c,d,e]) 5,.int .i64 (255:Int),.int .u64 (21:Int)]).bind fun t=>some (AV.agg (.ints .u64 [f0a t,f0b t,f0c t,f0d t,f0e t]) 5):=by kernel_rfl
end
section
variable (T0:Type) (R0:List AV->Option T0) (f0a f0b f0c f0d f0e:T0->Int)
def g_FRo:Cg:=⟨⟨gam [(nF125,⟨R0,fun t=>AV.agg (.ints .u64 [(f0a t),(f0b t),(f0c t),(f0d t),(f0e t)]) 5⟩)],[],noE⟩,[]⟩
theorem FRo_ev (fu:Nat) (a b c d e:Int):afunc prog fF89 (g_FRo T0 R0 f0a f0b f0c f0d f0e) fu [.agg (.ints .u64 [a,b,c,d,e]) 5]=(R0 [.agg (.ints .u64 [a,b,c,d,e]) 5,.int .i64 (252:Int),.int .u64 (3:Int)]).bind fun t=>some (AV.agg (.ints .u64 [f0a t,f0b t,f0c t,f0d t,f0e t]) 5):=by kernel_rfl
end
section
variable (T0:Type) (R0:List AV->Option T0) (f0a f0b f0c f0d f0e:T0->Int)
def g_FOd:Cg:=⟨⟨gam [(nF99,⟨R0,fun t=>AV.agg (.ints .u64 [(f0a t),(f0b t),(f0c t),(f0d t),(f0e t)]) 5⟩)],[],noE⟩,[]⟩
theorem FOd_ev (fu:Nat) (a b c d e:Int):afunc prog fF55 (g_FOd T0 R0 f0a f0b f0c f0d f0e) fu [.agg (.ints .u64 [a,b,c,d,e]) 5]=(R0 [.agg (.ints .u64 [a,b,c,d,e]) 5]).bind fun t=>some (AV.bool (decide (bAnd .u64 (f0a t) (1:Int)=(1:Int)))):=by kernel_rfl
end
section
variable (T0:Type) (R0:List AV->Option T0) (f0a f0b f0c f0d f0e:T0->Int)
def g_FZe:Cg:=⟨⟨gam [(nF99,⟨R0,fun t=>AV.agg (.ints .u64 [(f0a t),(f0b t),(f0c t),(f0d t),(f0e t)]) 5⟩)],[],noE⟩,[]⟩
theorem FZe_ev (fu:Nat) (a b c d e:Int):afunc prog fF59 (g_FZe T0 R0 f0a f0b f0c f0d f0e) fu [.agg (.ints .u64 [a,b,c,d,e]) 5]=(R0 [.agg (.ints .u64 [a,b,c,d,e]) 5]).bind fun t=>some (AV.bool (decide ([f0a t,f0b t,f0c t,f0d t,f0e t]=[(0:Int),0,0,0,0]))):=by kernel_rfl
end
section
variable (T0:Type) (R0:List AV->Option T0) (f0a f0b f0c f0d f0e:T0->Int)
def g_FSa:Cg:=⟨⟨gam [(nF99,⟨R0,fun t=>AV.agg (.ints .u64 [(f0a t),(f0b t),(f0c t),(f0d t),(f0e t)]) 5⟩)],[],noE⟩,[]⟩
theorem FSa_ev (fu:Nat) (a b c d e f g h i j:Int):afunc prog fF90 (g_FSa T0 R0 f0a f0b f0c f0d f0e) fu [.agg (.ints .u64 [a,b,c,d,e]) 5,.agg (.ints .u64 [f,g,h,i,j]) 5]=(R0 [.agg (.ints .u64 [a,b,c,d,e]) 5]).bind fun t=>(R0 [.agg (.ints .u64 [f,g,h,i,j]) 5]).bind fun t_1=>some (AV.bool (decide ([f0a t,f0b t,f0c t,f0d t,f0e t]=[f0a t_1,f0b t_1,f0c t_1,f0d t_1,f0e t_1]))):=by kernel_rfl
end
section
variable (T0:Type) (R0:List AV->Option T0) (f0a:T0->Bool) (T1:Type) (R1:List AV->Option T1) (f1a f1b f1c f1d f1e:T1->Int)
def g_FAb:Cg:=⟨⟨gam [(nF55,⟨R0,fun t=>AV.bool (f0a t)⟩),(nF43,⟨R1,fun t=>AV.agg (.ints .u64 [(f1a t),(f1b t),(f1c t),(f1d t),(f1e t)]) 5⟩)],[],noE⟩,[]⟩
theorem FAb_ev (fu:Nat) (a b c d e:Int):afunc prog fF46 (g_FAb T0 R0 f0a T1 R1 f1a f1b f1c f1d f1e) fu [.agg (.ints .u64 [a,b,c,d,e]) 5]=(R0 [.agg (.ints .u64 [a,b,c,d,e]) 5]).bind fun t=>bif f0a t then (R1 [.agg (.ints .u64 [a,b,c,d,e]) 5]).bind fun t=>some (AV.agg (.ints .u64 [f1a t,f1b t,f1c t,f1d t,f1e t]) 5) else some (AV.agg (.ints .u64 [a,b,c,d,e]) 5):=by kernel_rfl
end
section
variable (T0:Type) (R0:List AV->Option T0) (f0a f0b f0c f0d f0e:T0->Int)
def g_FBy:Cg:=⟨⟨gam [(nF99,⟨R0,fun t=>AV.agg (.ints .u64 [(f0a t),(f0b t),(f0c t),(f0d t),(f0e t)]) 5⟩)],[],noE⟩,[(4,[2,3,10,11],[2,3]),(7,[2,3,4,5,10,11,15],[2,3,10,11])]⟩
def FBy_s1 (x10:List Int) (v11:Int) (x_0 x_1:List Int):St:={ tm:=[(2,.s (.ptr 0 0 32)),(3,.s (.ptr 1 0 32)),(10,.agg (.ints .u64 x10) 5),(11,.int .i64 v11)],hp:=[(0,{ ty:=23,n:=32,row:=Row.t (.ints .u8 x_0) }),(1,{ ty:=23,n:=32,row:=Row.t (.ints .u8 x_1) })],nx:=2,sz:=39 }
def FBy_b1:Code:=bodyL (codeAt [1,1,0,1,2] (codeF fF56))
def FBy_k1 (fu:Nat):=kAt prog (g_FBy T0 R0 f0a f0b f0c f0d f0e) fu [1,1,0,1,2] (codeF fF56) (kFin prog fF56)
abbrev FBy_L1 (fu:Nat) (x10:List Int) (v11:Int) (x_0 x_1:List Int):=lpA prog (g_FBy T0 R0 f0a f0b f0c f0d f0e) fu FBy_b1 (FBy_k1 T0 R0 f0a f0b f0c f0d f0e fu ) fu (some (FBy_s1 x10 v11 x_0 x_1))
theorem FBy_ev (fu:Nat) (a b c d e:Int):afunc prog fF56 (g_FBy T0 R0 f0a f0b f0c f0d f0e) fu [.agg (.ints .u64 [a,b,c,d,e]) 5]=(R0 [.agg (.ints .u64 [a,b,c,d,e]) 5]).bind fun t=>FBy_L1 T0 R0 f0a f0b f0c f0d f0e fu [f0a t,f0b t,f0c t,f0d t,f0e t] (0:Int) [(0:Int),0,0,0,0,0,0,0,0,0,0,0,0,0,0,0,0,0,0,0,0,0,0,0,0,0,0,0,0,0,0,0] [(0:Int),0,0,0,0,0,0,0,0,0,0,0,0,0,0,0,0,0,0,0,0,0,0,0,0,0,0,0,0,0,0,0]:=by kernel_rfl
def FBy_s2 (v4 v5:Int) (x10:List Int) (v11 v15:Int) (x_0 x_1:List Int):St:={ tm:=[(2,.s (.ptr 0 0 32)),(3,.s (.ptr 1 0 32)),(4,.int .i64 v4),(5,.int .u64 v5),(10,.agg (.ints .u64 x10) 5),(11,.int .i64 v11),(15,.int .i64 v15)],hp:=[(0,{ ty:=23,n:=32,row:=Row.t (.ints .u8 x_0) }),(1,{ ty:=23,n:=32,row:=Row.t (.ints .u8 x_1) })],nx:=2,sz:=39 }
def FBy_b2:Code:=bodyL (codeAt [1,1,0,1,2,6,1,1,0,2,1,1,2] (codeF fF56))
def FBy_k2 {β:Type} (fu:Nat) (G:Option St->Option β) (H:Ex->Option St->Option β):=kAt prog (g_FBy T0 R0 f0a f0b f0c f0d f0e) fu [1,1,0,2,1,1,2] FBy_b1 (kRound (g_FBy T0 R0 f0a f0b f0c f0d f0e) FBy_b1 G H)
abbrev FBy_L2 {β:Type} (fu:Nat) (G:Option St->Option β) (H:Ex->Option St->Option β) (v4 v5:Int) (x10:List Int) (v11 v15:Int) (x_0 x_1:List Int):=lpA prog (g_FBy T0 R0 f0a f0b f0c f0d f0e) fu FBy_b2 (FBy_k2 T0 R0 f0a f0b f0c f0d f0e fu G H) fu (some (FBy_s2 v4 v5 x10 v11 v15 x_0 x_1))
def FBy_o1e0 (x_0 x_1:List Int):St:={ tm:=[(2,.s (.ptr 0 0 32)),(3,.s (.ptr 1 0 32))],hp:=[(0,{ ty:=23,n:=32,row:=Row.t (.ints .u8 x_0) }),(1,{ ty:=23,n:=32,row:=Row.t (.ints .u8 x_1) })],nx:=2,sz:=39 }
theorem FBy_r1 {β:Type} (fu:Nat) (G:Option St->Option β) (H:Ex->Option St->Option β) (x10:List Int) (v11:Int) (x_0 x_1:List Int):lpR prog (g_FBy T0 R0 f0a f0b f0c f0d f0e) fu FBy_b1 G H (FBy_s1 x10 v11 x_0 x_1)=bif decide (v11 < (5:Int)) then bif decide ((0:Int) <= v11 /\ v11 < (5:Int)) then FBy_L2 T0 R0 f0a f0b f0c f0d f0e fu G H v11 (x10.getD v11.toNat (0:Int)) x10 v11 (0:Int) x_0 x_1 else none else H (Ex.exit 0) (some (FBy_o1e0 x_0 x_1)):=by kernel_rfl
def FBy_o2e2 (x10:List Int) (v11:Int) (x_0 x_1:List Int):St:={ tm:=[(2,.s (.ptr 0 0 32)),(3,.s (.ptr 1 0 32)),(10,.agg (.ints .u64 x10) 5),(11,.int .i64 v11)],hp:=[(0,{ ty:=23,n:=32,row:=Row.t (.ints .u8 x_0) }),(1,{ ty:=23,n:=32,row:=Row.t (.ints .u8 x_1) })],nx:=2,sz:=39 }
theorem FBy_r2 {β:Type} (fu:Nat) (G:Option St->Option β) (H:Ex->Option St->Option β) (v4 v5:Int) (x10:List Int) (v11 v15:Int) (x_0 x_1:List Int):lpR prog (g_FBy T0 R0 f0a f0b f0c f0d f0e) fu FBy_b2 G H (FBy_s2 v4 v5 x10 v11 v15 x_0 x_1)=bif decide (v15 < (51:Int)) then bif decide ((0:Int) <= i64.wrap ((i64.wrap (i64.wrap ((51:Int)*v4)+v15)).tdiv (8:Int)) /\ i64.wrap ((i64.wrap (i64.wrap ((51:Int)*v4)+v15)).tdiv (8:Int)) < (32:Int)) then bif decide (v15 < (0:Int)) then none else bif decide ((i64.wrap (i64.wrap ((51:Int)*v4)+v15)).tmod (8:Int) < (0:Int)) then none else bif decide ((0:Int) <= i64.wrap ((i64.wrap (i64.wrap ((51:Int)*v4)+v15)).tdiv (8:Int)) /\ i64.wrap ((i64.wrap (i64.wrap ((51:Int)*v4)+v15)).tdiv (8:Int)) < (32:Int)) then G (some (FBy_s2 v4 v5 x10 v11 (i64.wrap (v15+(1:Int))) x_0 (x_1.set (0+(i64.wrap ((i64.wrap (i64.wrap ((51:Int)*v4)+v15)).tdiv (8:Int))).toNat) (bOr .u8 (x_1.getD (0+(i64.wrap ((i64.wrap (i64.wrap ((51:Int)*v4)+v15)).tdiv (8:Int))).toNat) (0:Int)) (bShl .u8 (u8.wrap (bAnd .u64 (bShr .u64 v5 v15) (1:Int))) ((i64.wrap (i64.wrap ((51:Int)*v4)+v15)).tmod (8:Int))))))) else none else none else H (Ex.exit 2) (some (FBy_o2e2 x10 v11 x_0 x_1)):=by kernel_rfl
theorem FBy_c1e0 (fu:Nat) (x_0 x_1:List Int):FBy_k1 T0 R0 f0a f0b f0c f0d f0e fu  (Ex.exit 0) (FBy_o1e0 x_0 x_1)=some (AV.agg (.ints .u8 x_1) 32):=by kernel_rfl
theorem FBy_c2e2 {β:Type} (fu:Nat) (G:Option St->Option β) (H:Ex->Option St->Option β) (x10:List Int) (v11:Int) (x_0 x_1:List Int):FBy_k2 T0 R0 f0a f0b f0c f0d f0e fu G H (Ex.exit 2) (FBy_o2e2 x10 v11 x_0 x_1)=G (some (FBy_s1 x10 (i64.wrap (v11+(1:Int))) x_0 x_1)):=by kernel_rfl
end
section
variable (T0:Type) (R0:List AV->Option T0) (f0a:T0->List Int) (T1:Type) (R1:List AV->Option T1) (f1a:T1->List Int) (T2:Type) (R2:List AV->Option T2) (f2a:T2->List Int) (f2b:T2->Bool) (T3:Type) (R3:List AV->Option T3) (f3a f3b:T3->List Int) (f3c:T3->Int)
def g_FWi:Cg:=⟨⟨gam [(nF79,⟨R0,fun t=>AV.agg (.ints .u64 (f0a t)) 8⟩),(nF123,⟨R1,fun t=>AV.agg (.ints .u64 (f1a t)) 8⟩),(nF97,⟨R2,fun t=>AV.tup [.s (.pl (.agg (.ints .u64 (f2a t)) 8)),.s (.pl (.bool (f2b t)))]⟩),(nF124,⟨R3,fun t=>AV.tup [.s (.pl (.agg (.ints .u64 (f3a t)) 8)),.s (.pl (.agg (.ints .u64 (f3b t)) 8)),.s (.pl (.int .i64 (f3c t)))]⟩)],[],noE⟩,[(6,[1,2,5,21],[2,5])]⟩
def FWi_s1 (v21:Int) (x_0 x_1 x_2:List Int):St:={ tm:=[(1,.s (.ptr 0 0 8)),(2,.s (.ptr 1 0 5)),(5,.s (.ptr 2 0 5)),(21,.int .i64 v21)],hp:=[(0,{ ty:=27,n:=8,row:=Row.t (.ints .u64 x_0) }),(1,{ ty:=33,n:=5,row:=Row.t (.ints .u64 x_1) }),(2,{ ty:=33,n:=5,row:=Row.t (.ints .u64 x_2) })],nx:=3,sz:=35 }
def FWi_b1:Code:=bodyL (codeAt [1,1,1,1,0,1,2] (codeF fF85))
def FWi_k1 (fu:Nat):=kAt prog (g_FWi T0 R0 f0a T1 R1 f1a T2 R2 f2a f2b T3 R3 f3a f3b f3c) fu [1,1,1,1,0,1,2] (codeF fF85) (kFin prog fF85)
abbrev FWi_L1 (fu:Nat) (v21:Int) (x_0 x_1 x_2:List Int):=lpA prog (g_FWi T0 R0 f0a T1 R1 f1a T2 R2 f2a f2b T3 R3 f3a f3b f3c) fu FWi_b1 (FWi_k1 T0 R0 f0a T1 R1 f1a T2 R2 f2a f2b T3 R3 f3a f3b f3c fu ) fu (some (FWi_s1 v21 x_0 x_1 x_2))
theorem FWi_ev (fu:Nat) (a:List Int):afunc prog fF85 (g_FWi T0 R0 f0a T1 R1 f1a T2 R2 f2a f2b T3 R3 f3a f3b f3c) fu [W8 a]=(R0 [.int .u64 (1:Int)]).bind fun t=>(R1 [.agg (.ints .u64 (f0a t)) 8,.int .i64 (255:Int)]).bind fun t=>(R0 [.int .u64 (19:Int)]).bind fun t_1=>(R2 [.agg (.ints .u64 (f1a t)) 8,.agg (.ints .u64 (f0a t_1)) 8]).bind fun t=>(R3 [.agg (.ints .u64 a) 8,.agg (.ints .u64 (f2a t)) 8]).bind fun t=>FWi_L1 T0 R0 f0a T1 R1 f1a T2 R2 f2a f2b T3 R3 f3a f3b f3c fu (0:Int) (f3b t) [(0:Int),0,0,0,0] [(0:Int),0,0,0,0]:=by kernel_rfl
def FWi_o1e0 (x_0 x_1:List Int):St:={ tm:=[(2,.s (.ptr 0 0 5)),(5,.s (.ptr 1 0 5))],hp:=[(0,{ ty:=33,n:=5,row:=Row.t (.ints .u64 x_0) }),(1,{ ty:=33,n:=5,row:=Row.t (.ints .u64 x_1) })],nx:=2,sz:=35 }
theorem FWi_c1e0 (fu:Nat) (x_0 x_1:List Int):FWi_k1 T0 R0 f0a T1 R1 f1a T2 R2 f2a f2b T3 R3 f3a f3b f3c fu  (Ex.exit 0) (FWi_o1e0 x_0 x_1)=some (AV.agg (.ints .u64 x_1) 5):=by kernel_rfl
end
section
variable (T0:Type) (R0:List AV->Option T0) (f0a:T0->List Int) (f0b:T0->Int) (T1:Type) (R1:List AV->Option T1) (f1a f1b f1c f1d f1e:T1->Int)
def g_FDe:Cg:=⟨⟨gam [(nF122,⟨R0,fun t=>AV.tup [.s (.pl (.agg (.ints .u64 (f0a t)) 8)),.s (.pl (.int .i64 (f0b t)))]⟩),(nF85,⟨R1,fun t=>AV.agg (.ints .u64 [(f1a t),(f1b t),(f1c t),(f1d t),(f1e t)]) 5⟩)],[],noE⟩,[]⟩
theorem FDe_ev (fu:Nat) (s:Str):afunc prog fF84 (g_FDe T0 R0 f0a f0b T1 R1 f1a f1b f1c f1d f1e) fu [.str s]=(R0 [.str s]).bind fun t=>(R1 [.agg (.ints .u64 (f0a t)) 8]).bind fun t=>some (AV.agg (.ints .u64 [f1a t,f1b t,f1c t,f1d t,f1e t]) 5):=by kernel_rfl
end
section
variable (T0:Type) (R0:List AV->Option T0) (f0a:T0->List Int) (f0b:T0->Int) (T1:Type) (R1:List AV->Option T1) (f1a f1b f1c f1d f1e:T1->Int)
def g_FLo:Cg:=⟨⟨gam [(nF83,⟨R0,fun t=>AV.tup [.s (.pl (.agg (.ints .u64 (f0a t)) 8)),.s (.pl (.int .i64 (f0b t)))]⟩),(nF85,⟨R1,fun t=>AV.agg (.ints .u64 [(f1a t),(f1b t),(f1c t),(f1d t),(f1e t)]) 5⟩)],[],noE⟩,[]⟩
theorem FLo_ev (fu:Nat) (a:List Int):afunc prog fF37 (g_FLo T0 R0 f0a f0b T1 R1 f1a f1b f1c f1d f1e) fu [.agg (.ints .u8 a) 32]=(R0 [.str (List.map b8 (List.take 32 (List.drop 0 (a.set 31 (bAnd .u8 (a.getD 31 (0:Int)) (127:Int))))))]).bind fun t=>(R1 [.agg (.ints .u64 (f0a t)) 8]).bind fun t=>some (AV.agg (.ints .u64 [f1a t,f1b t,f1c t,f1d t,f1e t]) 5):=by kernel_rfl
end
section
variable (T0:Type) (R0:List AV->Option T0) (f0a f0b f0c f0d f0e:T0->Int) (T1:Type) (R1:List AV->Option T1) (f1a:T1->List Int)
def g_FPr:Cg:=⟨⟨gam [(nF37,⟨R0,fun t=>AV.agg (.ints .u64 [(f0a t),(f0b t),(f0c t),(f0d t),(f0e t)]) 5⟩),(nF56,⟨R1,fun t=>AV.agg (.ints .u8 (f1a t)) 32⟩)],[],noE⟩,[]⟩
theorem FPr_ev (fu:Nat) (a:List Int):afunc prog fF58 (g_FPr T0 R0 f0a f0b f0c f0d f0e T1 R1 f1a) fu [.agg (.ints .u8 a) 32]=(R0 [.agg (.ints .u8 a) 32]).bind fun t=>(R1 [.agg (.ints .u64 [f0a t,f0b t,f0c t,f0d t,f0e t]) 5]).bind fun t_1=>bif !decide (f1a t_1=a) then some (AV.tup [.s (.pl (.agg (.ints .u64 [(0:Int),0,0,0,0]) 5)),.s (.pl (.int .i64 (7:Int)))]) else some (AV.tup [.s (.pl (.agg (.ints .u64 [f0a t,f0b t,f0c t,f0d t,f0e t]) 5)),.s (.pl (.int .i64 (0:Int)))]):=by kernel_rfl
end
section
variable (T0:Type) (R0:List AV->Option T0) (f0a f0b:T0->Int) (T1:Type) (R1:List AV->Option T1) (f1a f1b:T1->Int) (T2:Type) (R2:List AV->Option T2) (f2a f2b f2c f2d f2e:T2->Int)
theorem FMu_m00 {β:Type} (fu:Nat) (G:Option St->Option β) (H:Ex->Option St->Option β) (v:Int) (xs zs ys:List Int) (f g h i j s0 s1 s2 s3 s4 s5 s6 s7 s8 s9:Int):lpR prog (g_FMu T0 R0 f0a f0b T1 R1 f1a f1b T2 R2 f2a f2b f2c f2d f2e) fu FMu_b2 G H (FMu_s2 0 v xs 0 [f,g,h,i,j] 0 zs ys [s0,s1,s2,s3,s4,s5,s6,s7,s8,s9]) =
 (R0 [AV.agg (TRow.ints u64 [s0,s1]) 2,AV.int u64 v,AV.int u64 f]).bind fun (t:T0)=>G (some (FMu_s2 0 v xs 0 [f,g,h,i,j] 1 zs ys [f0a t,f0b t,s2,s3,s4,s5,s6,s7,s8,s9])):=by kernel_rfl
theorem FMu_m01 {β:Type} (fu:Nat) (G:Option St->Option β) (H:Ex->Option St->Option β) (v:Int) (xs zs ys:List Int) (f g h i j s0 s1 s2 s3 s4 s5 s6 s7 s8 s9:Int):lpR prog (g_FMu T0 R0 f0a f0b T1 R1 f1a f1b T2 R2 f2a f2b f2c f2d f2e) fu FMu_b2 G H (FMu_s2 0 v xs 0 [f,g,h,i,j] 1 zs ys [s0,s1,s2,s3,s4,s5,s6,s7,s8,s9]) =
 (R0 [AV.agg (TRow.ints u64 [s2,s3]) 2,AV.int u64 v,AV.int u64 g]).bind fun (t:T0)=>G (some (FMu_s2 0 v xs 0 [f,g,h,i,j] 2 zs ys [s0,s1,f0a t,f0b t,s4,s5,s6,s7,s8,s9])):=by kernel_rfl
theorem FMu_m02 {β:Type} (fu:Nat) (G:Option St->Option β) (H:Ex->Option St->Option β) (v:Int) (xs zs ys:List Int) (f g h i j s0 s1 s2 s3 s4 s5 s6 s7 s8 s9:Int):lpR prog (g_FMu T0 R0 f0a f0b T1 R1 f1a f1b T2 R2 f2a f2b f2c f2d f2e) fu FMu_b2 G H (FMu_s2 0 v xs 0 [f,g,h,i,j] 2 zs ys [s0,s1,s2,s3,s4,s5,s6,s7,s8,s9]) =
 (R0 [AV.agg (TRow.ints u64 [s4,s5]) 2,AV.int u64 v,AV.int u64 h]).bind fun (t:T0)=>G (some (FMu_s2 0 v xs 0 [f,g,h,i,j] 3 zs ys [s0,s1,s2,s3,f0a t,f0b t,s6,s7,s8,s9])):=by kernel_rfl
theorem FMu_m03 {β:Type} (fu:Nat) (G:Option St->Option β) (H:Ex->Option St->Option β) (v:Int) (xs zs ys:List Int) (f g h i j s0 s1 s2 s3 s4 s5 s6 s7 s8 s9:Int):lpR prog (g_FMu T0 R0 f0a f0b T1 R1 f1a f1b T2 R2 f2a f2b f2c f2d f2e) fu FMu_b2 G H (FMu_s2 0 v xs 0 [f,g,h,i,j] 3 zs ys [s0,s1,s2,s3,s4,s5,s6,s7,s8,s9]) =
 (R0 [AV.agg (TRow.ints u64 [s6,s7]) 2,AV.int u64 v,AV.int u64 i]).bind fun (t:T0)=>G (some (FMu_s2 0 v xs 0 [f,g,h,i,j] 4 zs ys [s0,s1,s2,s3,s4,s5,f0a t,f0b t,s8,s9])):=by kernel_rfl
theorem FMu_m04 {β:Type} (fu:Nat) (G:Option St->Option β) (H:Ex->Option St->Option β) (v:Int) (xs zs ys:List Int) (f g h i j s0 s1 s2 s3 s4 s5 s6 s7 s8 s9:Int):lpR prog (g_FMu T0 R0 f0a f0b T1 R1 f1a f1b T2 R2 f2a f2b f2c f2d f2e) fu FMu_b2 G H (FMu_s2 0 v xs 0 [f,g,h,i,j] 4 zs ys [s0,s1,s2,s3,s4,s5,s6,s7,s8,s9]) =
 (R0 [AV.agg (TRow.ints u64 [s8,s9]) 2,AV.int u64 v,AV.int u64 j]).bind fun (t:T0)=>G (some (FMu_s2 0 v xs 0 [f,g,h,i,j] 5 zs ys [s0,s1,s2,s3,s4,s5,s6,s7,f0a t,f0b t])):=by kernel_rfl
theorem FMu_q0 {β:Type} (fu:Nat) (G:Option St->Option β) (H:Ex->Option St->Option β) (a b c d e:Int) (zs ys ss:List Int):lpR prog (g_FMu T0 R0 f0a f0b T1 R1 f1a f1b T2 R2 f2a f2b f2c f2d f2e) fu FMu_b1 G H (FMu_s1 [a,b,c,d,e] 0 zs ys ss) =
 lpA prog (g_FMu T0 R0 f0a f0b T1 R1 f1a f1b T2 R2 f2a f2b f2c f2d f2e) fu FMu_b2 (FMu_k2 T0 R0 f0a f0b T1 R1 f1a f1b T2 R2 f2a f2b f2c f2d f2e fu G H) fu (some (FMu_s2 0 a [a,b,c,d,e] 0 zs 0 zs ys ss)):=by kernel_rfl
theorem FMu_d0 {β:Type} (fu:Nat) (G:Option St->Option β) (H:Ex->Option St->Option β) (xs zs ys ss:List Int):FMu_k2 T0 R0 f0a f0b T1 R1 f1a f1b T2 R2 f2a f2b f2c f2d f2e fu G H (Ex.exit 2) (FMu_o2e2 xs 0 zs ys ss) =
 G (some (FMu_s1 xs 1 zs ys ss)):=by kernel_rfl
theorem FMu_m05 {β:Type} (fu:Nat) (G:Option St->Option β) (H:Ex->Option St->Option β) (v:Int) (xs ys zs ss x23:List Int):lpR prog (g_FMu T0 R0 f0a f0b T1 R1 f1a f1b T2 R2 f2a f2b f2c f2d f2e) fu FMu_b2 G H (FMu_s2 0 v xs 0 x23 5 zs ys ss) =
 H (Ex.exit 2) (some (FMu_o2e2 xs 0 zs ys ss)):=by kernel_rfl
theorem FMu_m10 {β:Type} (fu:Nat) (G:Option St->Option β) (H:Ex->Option St->Option β) (v:Int) (xs zs ys:List Int) (f g h i j s0 s1 s2 s3 s4 s5 s6 s7 s8 s9:Int):lpR prog (g_FMu T0 R0 f0a f0b T1 R1 f1a f1b T2 R2 f2a f2b f2c f2d f2e) fu FMu_b2 G H (FMu_s2 1 v xs 1 [f,g,h,i,j] 0 zs ys [s0,s1,s2,s3,s4,s5,s6,s7,s8,s9]) =
 (R0 [AV.agg (TRow.ints u64 [s2,s3]) 2,AV.int u64 v,AV.int u64 f]).bind fun (t:T0)=>G (some (FMu_s2 1 v xs 1 [f,g,h,i,j] 1 zs ys [s0,s1,f0a t,f0b t,s4,s5,s6,s7,s8,s9])):=by kernel_rfl
theorem FMu_m11 {β:Type} (fu:Nat) (G:Option St->Option β) (H:Ex->Option St->Option β) (v:Int) (xs zs ys:List Int) (f g h i j s0 s1 s2 s3 s4 s5 s6 s7 s8 s9:Int):lpR prog (g_FMu T0 R0 f0a f0b T1 R1 f1a f1b T2 R2 f2a f2b f2c f2d f2e) fu FMu_b2 G H (FMu_s2 1 v xs 1 [f,g,h,i,j] 1 zs ys [s0,s1,s2,s3,s4,s5,s6,s7,s8,s9]) =
 (R0 [AV.agg (TRow.ints u64 [s4,s5]) 2,AV.int u64 v,AV.int u64 g]).bind fun (t:T0)=>G (some (FMu_s2 1 v xs 1 [f,g,h,i,j] 2 zs ys [s0,s1,s2,s3,f0a t,f0b t,s6,s7,s8,s9])):=by kernel_rfl
theorem FMu_m12 {β:Type} (fu:Nat) (G:Option St->Option β) (H:Ex->Option St->Option β) (v:Int) (xs zs ys:List Int) (f g h i j s0 s1 s2 s3 s4 s5 s6 s7 s8 s9:Int):lpR prog (g_FMu T0 R0 f0a f0b T1 R1 f1a f1b T2 R2 f2a f2b f2c f2d f2e) fu FMu_b2 G H (FMu_s2 1 v xs 1 [f,g,h,i,j] 2 zs ys [s0,s1,s2,s3,s4,s5,s6,s7,s8,s9]) =
 (R0 [AV.agg (TRow.ints u64 [s6,s7]) 2,AV.int u64 v,AV.int u64 h]).bind fun (t:T0)=>G (some (FMu_s2 1 v xs 1 [f,g,h,i,j] 3 zs ys [s0,s1,s2,s3,s4,s5,f0a t,f0b t,s8,s9])):=by kernel_rfl
theorem FMu_m13 {β:Type} (fu:Nat) (G:Option St->Option β) (H:Ex->Option St->Option β) (v:Int) (xs zs ys:List Int) (f g h i j s0 s1 s2 s3 s4 s5 s6 s7 s8 s9:Int):lpR prog (g_FMu T0 R0 f0a f0b T1 R1 f1a f1b T2 R2 f2a f2b f2c f2d f2e) fu FMu_b2 G H (FMu_s2 1 v xs 1 [f,g,h,i,j] 3 zs ys [s0,s1,s2,s3,s4,s5,s6,s7,s8,s9]) =
 (R0 [AV.agg (TRow.ints u64 [s8,s9]) 2,AV.int u64 v,AV.int u64 i]).bind fun (t:T0)=>G (some (FMu_s2 1 v xs 1 [f,g,h,i,j] 4 zs ys [s0,s1,s2,s3,s4,s5,s6,s7,f0a t,f0b t])):=by kernel_rfl
theorem FMu_m14 {β:Type} (fu:Nat) (G:Option St->Option β) (H:Ex->Option St->Option β) (v:Int) (xs zs ys:List Int) (f g h i j s0 s1 s2 s3 s4 s5 s6 s7 s8 s9:Int):lpR prog (g_FMu T0 R0 f0a f0b T1 R1 f1a f1b T2 R2 f2a f2b f2c f2d f2e) fu FMu_b2 G H (FMu_s2 1 v xs 1 [f,g,h,i,j] 4 zs ys [s0,s1,s2,s3,s4,s5,s6,s7,s8,s9]) =
 (R0 [AV.agg (TRow.ints u64 [s0,s1]) 2,AV.int u64 v,AV.int u64 (u64.wrap (j*19))]).bind fun (t:T0)=>G (some (FMu_s2 1 v xs 1 [f,g,h,i,j] 5 zs ys [f0a t,f0b t,s2,s3,s4,s5,s6,s7,s8,s9])):=by kernel_rfl
theorem FMu_q1 {β:Type} (fu:Nat) (G:Option St->Option β) (H:Ex->Option St->Option β) (a b c d e:Int) (zs ys ss:List Int):lpR prog (g_FMu T0 R0 f0a f0b T1 R1 f1a f1b T2 R2 f2a f2b f2c f2d f2e) fu FMu_b1 G H (FMu_s1 [a,b,c,d,e] 1 zs ys ss) =
 lpA prog (g_FMu T0 R0 f0a f0b T1 R1 f1a f1b T2 R2 f2a f2b f2c f2d f2e) fu FMu_b2 (FMu_k2 T0 R0 f0a f0b T1 R1 f1a f1b T2 R2 f2a f2b f2c f2d f2e fu G H) fu (some (FMu_s2 1 b [a,b,c,d,e] 1 zs 0 zs ys ss)):=by kernel_rfl
theorem FMu_d1 {β:Type} (fu:Nat) (G:Option St->Option β) (H:Ex->Option St->Option β) (xs zs ys ss:List Int):FMu_k2 T0 R0 f0a f0b T1 R1 f1a f1b T2 R2 f2a f2b f2c f2d f2e fu G H (Ex.exit 2) (FMu_o2e2 xs 1 zs ys ss) =
 G (some (FMu_s1 xs 2 zs ys ss)):=by kernel_rfl
theorem FMu_m15 {β:Type} (fu:Nat) (G:Option St->Option β) (H:Ex->Option St->Option β) (v:Int) (xs ys zs ss x23:List Int):lpR prog (g_FMu T0 R0 f0a f0b T1 R1 f1a f1b T2 R2 f2a f2b f2c f2d f2e) fu FMu_b2 G H (FMu_s2 1 v xs 1 x23 5 zs ys ss) =
 H (Ex.exit 2) (some (FMu_o2e2 xs 1 zs ys ss)):=by kernel_rfl
theorem FMu_m20 {β:Type} (fu:Nat) (G:Option St->Option β) (H:Ex->Option St->Option β) (v:Int) (xs zs ys:List Int) (f g h i j s0 s1 s2 s3 s4 s5 s6 s7 s8 s9:Int):lpR prog (g_FMu T0 R0 f0a f0b T1 R1 f1a f1b T2 R2 f2a f2b f2c f2d f2e) fu FMu_b2 G H (FMu_s2 2 v xs 2 [f,g,h,i,j] 0 zs ys [s0,s1,s2,s3,s4,s5,s6,s7,s8,s9]) =
 (R0 [AV.agg (TRow.ints u64 [s4,s5]) 2,AV.int u64 v,AV.int u64 f]).bind fun (t:T0)=>G (some (FMu_s2 2 v xs 2 [f,g,h,i,j] 1 zs ys [s0,s1,s2,s3,f0a t,f0b t,s6,s7,s8,s9])):=by kernel_rfl
theorem FMu_m21 {β:Type} (fu:Nat) (G:Option St->Option β) (H:Ex->Option St->Option β) (v:Int) (xs zs ys:List Int) (f g h i j s0 s1 s2 s3 s4 s5 s6 s7 s8 s9:Int):lpR prog (g_FMu T0 R0 f0a f0b T1 R1 f1a f1b T2 R2 f2a f2b f2c f2d f2e) fu FMu_b2 G H (FMu_s2 2 v xs 2 [f,g,h,i,j] 1 zs ys [s0,s1,s2,s3,s4,s5,s6,s7,s8,s9]) =
 (R0 [AV.agg (TRow.ints u64 [s6,s7]) 2,AV.int u64 v,AV.int u64 g]).bind fun (t:T0)=>G (some (FMu_s2 2 v xs 2 [f,g,h,i,j] 2 zs ys [s0,s1,s2,s3,s4,s5,f0a t,f0b t,s8,s9])):=by kernel_rfl
theorem FMu_m22 {β:Type} (fu:Nat) (G:Option St->Option β) (H:Ex->Option St->Option β) (v:Int) (xs zs ys:List Int) (f g h i j s0 s1 s2 s3 s4 s5 s6 s7 s8 s9:Int):lpR prog (g_FMu T0 R0 f0a f0b T1 R1 f1a f1b T2 R2 f2a f2b f2c f2d f2e) fu FMu_b2 G H (FMu_s2 2 v xs 2 [f,g,h,i,j] 2 zs ys [s0,s1,s2,s3,s4,s5,s6,s7,s8,s9]) =
 (R0 [AV.agg (TRow.ints u64 [s8,s9]) 2,AV.int u64 v,AV.int u64 h]).bind fun (t:T0)=>G (some (FMu_s2 2 v xs 2 [f,g,h,i,j] 3 zs ys [s0,s1,s2,s3,s4,s5,s6,s7,f0a t,f0b t])):=by kernel_rfl
theorem FMu_m23 {β:Type} (fu:Nat) (G:Option St->Option β) (H:Ex->Option St->Option β) (v:Int) (xs zs ys:List Int) (f g h i j s0 s1 s2 s3 s4 s5 s6 s7 s8 s9:Int):lpR prog (g_FMu T0 R0 f0a f0b T1 R1 f1a f1b T2 R2 f2a f2b f2c f2d f2e) fu FMu_b2 G H (FMu_s2 2 v xs 2 [f,g,h,i,j] 3 zs ys [s0,s1,s2,s3,s4,s5,s6,s7,s8,s9]) =
 (R0 [AV.agg (TRow.ints u64 [s0,s1]) 2,AV.int u64 v,AV.int u64 (u64.wrap (i*19))]).bind fun (t:T0)=>G (some (FMu_s2 2 v xs 2 [f,g,h,i,j] 4 zs ys [f0a t,f0b t,s2,s3,s4,s5,s6,s7,s8,s9])):=by kernel_rfl
theorem FMu_m24 {β:Type} (fu:Nat) (G:Option St->Option β) (H:Ex->Option St->Option β) (v:Int) (xs zs ys:List Int) (f g h i j s0 s1 s2 s3 s4 s5 s6 s7 s8 s9:Int):lpR prog (g_FMu T0 R0 f0a f0b T1 R1 f1a f1b T2 R2 f2a f2b f2c f2d f2e) fu FMu_b2 G H (FMu_s2 2 v xs 2 [f,g,h,i,j] 4 zs ys [s0,s1,s2,s3,s4,s5,s6,s7,s8,s9]) =
 (R0 [AV.agg (TRow.ints u64 [s2,s3]) 2,AV.int u64 v,AV.int u64 (u64.wrap (j*19))]).bind fun (t:T0)=>G (some (FMu_s2 2 v xs 2 [f,g,h,i,j] 5 zs ys [s0,s1,f0a t,f0b t,s4,s5,s6,s7,s8,s9])):=by kernel_rfl
theorem FMu_q2 {β:Type} (fu:Nat) (G:Option St->Option β) (H:Ex->Option St->Option β) (a b c d e:Int) (zs ys ss:List Int):lpR prog (g_FMu T0 R0 f0a f0b T1 R1 f1a f1b T2 R2 f2a f2b f2c f2d f2e) fu FMu_b1 G H (FMu_s1 [a,b,c,d,e] 2 zs ys ss) =
 lpA prog (g_FMu T0 R0 f0a f0b T1 R1 f1a f1b T2 R2 f2a f2b f2c f2d f2e) fu FMu_b2 (FMu_k2 T0 R0 f0a f0b T1 R1 f1a f1b T2 R2 f2a f2b f2c f2d f2e fu G H) fu (some (FMu_s2 2 c [a,b,c,d,e] 2 zs 0 zs ys ss)):=by kernel_rfl
theorem FMu_d2 {β:Type} (fu:Nat) (G:Option St->Option β) (H:Ex->Option St->Option β) (xs zs ys ss:List Int):FMu_k2 T0 R0 f0a f0b T1 R1 f1a f1b T2 R2 f2a f2b f2c f2d f2e fu G H (Ex.exit 2) (FMu_o2e2 xs 2 zs ys ss) =
 G (some (FMu_s1 xs 3 zs ys ss)):=by kernel_rfl
theorem FMu_m25 {β:Type} (fu:Nat) (G:Option St->Option β) (H:Ex->Option St->Option β) (v:Int) (xs ys zs ss x23:List Int):lpR prog (g_FMu T0 R0 f0a f0b T1 R1 f1a f1b T2 R2 f2a f2b f2c f2d f2e) fu FMu_b2 G H (FMu_s2 2 v xs 2 x23 5 zs ys ss) =
 H (Ex.exit 2) (some (FMu_o2e2 xs 2 zs ys ss)):=by kernel_rfl
theorem FMu_m30 {β:Type} (fu:Nat) (G:Option St->Option β) (H:Ex->Option St->Option β) (v:Int) (xs zs ys:List Int) (f g h i j s0 s1 s2 s3 s4 s5 s6 s7 s8 s9:Int):lpR prog (g_FMu T0 R0 f0a f0b T1 R1 f1a f1b T2 R2 f2a f2b f2c f2d f2e) fu FMu_b2 G H (FMu_s2 3 v xs 3 [f,g,h,i,j] 0 zs ys [s0,s1,s2,s3,s4,s5,s6,s7,s8,s9]) =
 (R0 [AV.agg (TRow.ints u64 [s6,s7]) 2,AV.int u64 v,AV.int u64 f]).bind fun (t:T0)=>G (some (FMu_s2 3 v xs 3 [f,g,h,i,j] 1 zs ys [s0,s1,s2,s3,s4,s5,f0a t,f0b t,s8,s9])):=by kernel_rfl
theorem FMu_m31 {β:Type} (fu:Nat) (G:Option St->Option β) (H:Ex->Option St->Option β) (v:Int) (xs zs ys:List Int) (f g h i j s0 s1 s2 s3 s4 s5 s6 s7 s8 s9:Int):lpR prog (g_FMu T0 R0 f0a f0b T1 R1 f1a f1b T2 R2 f2a f2b f2c f2d f2e) fu FMu_b2 G H (FMu_s2 3 v xs 3 [f,g,h,i,j] 1 zs ys [s0,s1,s2,s3,s4,s5,s6,s7,s8,s9]) =
 (R0 [AV.agg (TRow.ints u64 [s8,s9]) 2,AV.int u64 v,AV.int u64 g]).bind fun (t:T0)=>G (some (FMu_s2 3 v xs 3 [f,g,h,i,j] 2 zs ys [s0,s1,s2,s3,s4,s5,s6,s7,f0a t,f0b t])):=by kernel_rfl
theorem FMu_m32 {β:Type} (fu:Nat) (G:Option St->Option β) (H:Ex->Option St->Option β) (v:Int) (xs zs ys:List Int) (f g h i j s0 s1 s2 s3 s4 s5 s6 s7 s8 s9:Int):lpR prog (g_FMu T0 R0 f0a f0b T1 R1 f1a f1b T2 R2 f2a f2b f2c f2d f2e) fu FMu_b2 G H (FMu_s2 3 v xs 3 [f,g,h,i,j] 2 zs ys [s0,s1,s2,s3,s4,s5,s6,s7,s8,s9]) =
 (R0 [AV.agg (TRow.ints u64 [s0,s1]) 2,AV.int u64 v,AV.int u64 (u64.wrap (h*19))]).bind fun (t:T0)=>G (some (FMu_s2 3 v xs 3 [f,g,h,i,j] 3 zs ys [f0a t,f0b t,s2,s3,s4,s5,s6,s7,s8,s9])):=by kernel_rfl
theorem FMu_m33 {β:Type} (fu:Nat) (G:Option St->Option β) (H:Ex->Option St->Option β) (v:Int) (xs zs ys:List Int) (f g h i j s0 s1 s2 s3 s4 s5 s6 s7 s8 s9:Int):lpR prog (g_FMu T0 R0 f0a f0b T1 R1 f1a f1b T2 R2 f2a f2b f2c f2d f2e) fu FMu_b2 G H (FMu_s2 3 v xs 3 [f,g,h,i,j] 3 zs ys [s0,s1,s2,s3,s4,s5,s6,s7,s8,s9]) =
 (R0 [AV.agg (TRow.ints u64 [s2,s3]) 2,AV.int u64 v,AV.int u64 (u64.wrap (i*19))]).bind fun (t:T0)=>G (some (FMu_s2 3 v xs 3 [f,g,h,i,j] 4 zs ys [s0,s1,f0a t,f0b t,s4,s5,s6,s7,s8,s9])):=by kernel_rfl
theorem FMu_m34 {β:Type} (fu:Nat) (G:Option St->Option β) (H:Ex->Option St->Option β) (v:Int) (xs zs ys:List Int) (f g h i j s0 s1 s2 s3 s4 s5 s6 s7 s8 s9:Int):lpR prog (g_FMu T0 R0 f0a f0b T1 R1 f1a f1b T2 R2 f2a f2b f2c f2d f2e) fu FMu_b2 G H (FMu_s2 3 v xs 3 [f,g,h,i,j] 4 zs ys [s0,s1,s2,s3,s4,s5,s6,s7,s8,s9]) =
 (R0 [AV.agg (TRow.ints u64 [s4,s5]) 2,AV.int u64 v,AV.int u64 (u64.wrap (j*19))]).bind fun (t:T0)=>G (some (FMu_s2 3 v xs 3 [f,g,h,i,j] 5 zs ys [s0,s1,s2,s3,f0a t,f0b t,s6,s7,s8,s9])):=by kernel_rfl
theorem FMu_q3 {β:Type} (fu:Nat) (G:Option St->Option β) (H:Ex->Option St->Option β) (a b c d e:Int) (zs ys ss:List Int):lpR prog (g_FMu T0 R0 f0a f0b T1 R1 f1a f1b T2 R2 f2a f2b f2c f2d f2e) fu FMu_b1 G H (FMu_s1 [a,b,c,d,e] 3 zs ys ss) =
 lpA prog (g_FMu T0 R0 f0a f0b T1 R1 f1a f1b T2 R2 f2a f2b f2c f2d f2e) fu FMu_b2 (FMu_k2 T0 R0 f0a f0b T1 R1 f1a f1b T2 R2 f2a f2b f2c f2d f2e fu G H) fu (some (FMu_s2 3 d [a,b,c,d,e] 3 zs 0 zs ys ss)):=by kernel_rfl
theorem FMu_d3 {β:Type} (fu:Nat) (G:Option St->Option β) (H:Ex->Option St->Option β) (xs zs ys ss:List Int):FMu_k2 T0 R0 f0a f0b T1 R1 f1a f1b T2 R2 f2a f2b f2c f2d f2e fu G H (Ex.exit 2) (FMu_o2e2 xs 3 zs ys ss) =
 G (some (FMu_s1 xs 4 zs ys ss)):=by kernel_rfl
theorem FMu_m35 {β:Type} (fu:Nat) (G:Option St->Option β) (H:Ex->Option St->Option β) (v:Int) (xs ys zs ss x23:List Int):lpR prog (g_FMu T0 R0 f0a f0b T1 R1 f1a f1b T2 R2 f2a f2b f2c f2d f2e) fu FMu_b2 G H (FMu_s2 3 v xs 3 x23 5 zs ys ss) =
 H (Ex.exit 2) (some (FMu_o2e2 xs 3 zs ys ss)):=by kernel_rfl
theorem FMu_m40 {β:Type} (fu:Nat) (G:Option St->Option β) (H:Ex->Option St->Option β) (v:Int) (xs zs ys:List Int) (f g h i j s0 s1 s2 s3 s4 s5 s6 s7 s8 s9:Int):lpR prog (g_FMu T0 R0 f0a f0b T1 R1 f1a f1b T2 R2 f2a f2b f2c f2d f2e) fu FMu_b2 G H (FMu_s2 4 v xs 4 [f,g,h,i,j] 0 zs ys [s0,s1,s2,s3,s4,s5,s6,s7,s8,s9]) =
 (R0 [AV.agg (TRow.ints u64 [s8,s9]) 2,AV.int u64 v,AV.int u64 f]).bind fun (t:T0)=>G (some (FMu_s2 4 v xs 4 [f,g,h,i,j] 1 zs ys [s0,s1,s2,s3,s4,s5,s6,s7,f0a t,f0b t])):=by kernel_rfl
theorem FMu_m41 {β:Type} (fu:Nat) (G:Option St->Option β) (H:Ex->Option St->Option β) (v:Int) (xs zs ys:List Int) (f g h i j s0 s1 s2 s3 s4 s5 s6 s7 s8 s9:Int):lpR prog (g_FMu T0 R0 f0a f0b T1 R1 f1a f1b T2 R2 f2a f2b f2c f2d f2e) fu FMu_b2 G H (FMu_s2 4 v xs 4 [f,g,h,i,j] 1 zs ys [s0,s1,s2,s3,s4,s5,s6,s7,s8,s9]) =
 (R0 [AV.agg (TRow.ints u64 [s0,s1]) 2,AV.int u64 v,AV.int u64 (u64.wrap (g*19))]).bind fun (t:T0)=>G (some (FMu_s2 4 v xs 4 [f,g,h,i,j] 2 zs ys [f0a t,f0b t,s2,s3,s4,s5,s6,s7,s8,s9])):=by kernel_rfl
theorem FMu_m42 {β:Type} (fu:Nat) (G:Option St->Option β) (H:Ex->Option St->Option β) (v:Int) (xs zs ys:List Int) (f g h i j s0 s1 s2 s3 s4 s5 s6 s7 s8 s9:Int):lpR prog (g_FMu T0 R0 f0a f0b T1 R1 f1a f1b T2 R2 f2a f2b f2c f2d f2e) fu FMu_b2 G H (FMu_s2 4 v xs 4 [f,g,h,i,j] 2 zs ys [s0,s1,s2,s3,s4,s5,s6,s7,s8,s9]) =
 (R0 [AV.agg (TRow.ints u64 [s2,s3]) 2,AV.int u64 v,AV.int u64 (u64.wrap (h*19))]).bind fun (t:T0)=>G (some (FMu_s2 4 v xs 4 [f,g,h,i,j] 3 zs ys [s0,s1,f0a t,f0b t,s4,s5,s6,s7,s8,s9])):=by kernel_rfl
theorem FMu_m43 {β:Type} (fu:Nat) (G:Option St->Option β) (H:Ex->Option St->Option β) (v:Int) (xs zs ys:List Int) (f g h i j s0 s1 s2 s3 s4 s5 s6 s7 s8 s9:Int):lpR prog (g_FMu T0 R0 f0a f0b T1 R1 f1a f1b T2 R2 f2a f2b f2c f2d f2e) fu FMu_b2 G H (FMu_s2 4 v xs 4 [f,g,h,i,j] 3 zs ys [s0,s1,s2,s3,s4,s5,s6,s7,s8,s9]) =
 (R0 [AV.agg (TRow.ints u64 [s4,s5]) 2,AV.int u64 v,AV.int u64 (u64.wrap (i*19))]).bind fun (t:T0)=>G (some (FMu_s2 4 v xs 4 [f,g,h,i,j] 4 zs ys [s0,s1,s2,s3,f0a t,f0b t,s6,s7,s8,s9])):=by kernel_rfl
theorem FMu_m44 {β:Type} (fu:Nat) (G:Option St->Option β) (H:Ex->Option St->Option β) (v:Int) (xs zs ys:List Int) (f g h i j s0 s1 s2 s3 s4 s5 s6 s7 s8 s9:Int):lpR prog (g_FMu T0 R0 f0a f0b T1 R1 f1a f1b T2 R2 f2a f2b f2c f2d f2e) fu FMu_b2 G H (FMu_s2 4 v xs 4 [f,g,h,i,j] 4 zs ys [s0,s1,s2,s3,s4,s5,s6,s7,s8,s9]) =
 (R0 [AV.agg (TRow.ints u64 [s6,s7]) 2,AV.int u64 v,AV.int u64 (u64.wrap (j*19))]).bind fun (t:T0)=>G (some (FMu_s2 4 v xs 4 [f,g,h,i,j] 5 zs ys [s0,s1,s2,s3,s4,s5,f0a t,f0b t,s8,s9])):=by kernel_rfl
theorem FMu_q4 {β:Type} (fu:Nat) (G:Option St->Option β) (H:Ex->Option St->Option β) (a b c d e:Int) (zs ys ss:List Int):lpR prog (g_FMu T0 R0 f0a f0b T1 R1 f1a f1b T2 R2 f2a f2b f2c f2d f2e) fu FMu_b1 G H (FMu_s1 [a,b,c,d,e] 4 zs ys ss) =
 lpA prog (g_FMu T0 R0 f0a f0b T1 R1 f1a f1b T2 R2 f2a f2b f2c f2d f2e) fu FMu_b2 (FMu_k2 T0 R0 f0a f0b T1 R1 f1a f1b T2 R2 f2a f2b f2c f2d f2e fu G H) fu (some (FMu_s2 4 e [a,b,c,d,e] 4 zs 0 zs ys ss)):=by kernel_rfl
theorem FMu_d4 {β:Type} (fu:Nat) (G:Option St->Option β) (H:Ex->Option St->Option β) (xs zs ys ss:List Int):FMu_k2 T0 R0 f0a f0b T1 R1 f1a f1b T2 R2 f2a f2b f2c f2d f2e fu G H (Ex.exit 2) (FMu_o2e2 xs 4 zs ys ss) =
 G (some (FMu_s1 xs 5 zs ys ss)):=by kernel_rfl
theorem FMu_m45 {β:Type} (fu:Nat) (G:Option St->Option β) (H:Ex->Option St->Option β) (v:Int) (xs ys zs ss x23:List Int):lpR prog (g_FMu T0 R0 f0a f0b T1 R1 f1a f1b T2 R2 f2a f2b f2c f2d f2e) fu FMu_b2 G H (FMu_s2 4 v xs 4 x23 5 zs ys ss) =
 H (Ex.exit 2) (some (FMu_o2e2 xs 4 zs ys ss)):=by kernel_rfl
theorem FMu_q5 {β:Type} (fu:Nat) (G:Option St->Option β) (H:Ex->Option St->Option β) (xs zs ys ss:List Int):lpR prog (g_FMu T0 R0 f0a f0b T1 R1 f1a f1b T2 R2 f2a f2b f2c f2d f2e) fu FMu_b1 G H (FMu_s1 xs 5 zs ys ss) =
 H (Ex.exit 0) (some (FMu_o1e0 ys ss)):=by kernel_rfl
theorem FMu_e (fu:Nat) (ys:List Int) (s0 s1 s2 s3 s4 s5 s6 s7 s8 s9:Int):FMu_k1 T0 R0 f0a f0b T1 R1 f1a f1b T2 R2 f2a f2b f2c f2d f2e fu (Ex.exit 0) (FMu_o1e0 ys [s0,s1,s2,s3,s4,s5,s6,s7,s8,s9]) =
 (R1 [AV.agg (TRow.ints u64 [s0,s1]) 2]).bind fun (t:T1)=>
  (R1 [AV.agg (TRow.ints u64 [s2,s3]) 2]).bind fun (t_1:T1)=>
   (R1 [AV.agg (TRow.ints u64 [s4,s5]) 2]).bind fun (t_2:T1)=>
    (R1 [AV.agg (TRow.ints u64 [s6,s7]) 2]).bind fun (t_3:T1)=>
     (R1 [AV.agg (TRow.ints u64 [s8,s9]) 2]).bind fun (t_4:T1)=>
      lpA prog (g_FMu T0 R0 f0a f0b T1 R1 f1a f1b T2 R2 f2a f2b f2c f2d f2e) fu FMu_b4 (FMu_k4 T0 R0 f0a f0b T1 R1 f1a f1b T2 R2 f2a f2b f2c f2d f2e fu) fu (some (FMu_s4 [f1b t,f1b t_1,f1b t_2,f1b t_3,f1b t_4] 0 ys [f1a t,f1a t_1,f1a t_2,f1a t_3,f1a t_4])):=by kernel_rfl
theorem FMu_n0 {β:Type} (fu:Nat) (G:Option St->Option β) (H:Ex->Option St->Option β) (xs:List Int) (u0 u1 u2 u3 u4 o0 o1 o2 o3 o4:Int):lpR prog (g_FMu T0 R0 f0a f0b T1 R1 f1a f1b T2 R2 f2a f2b f2c f2d f2e) fu FMu_b4 G H (FMu_s4 [u0,u1,u2,u3,u4] 0 xs [o0,o1,o2,o3,o4]) =
 G (some (FMu_s4 [u0,u1,u2,u3,u4] 1 xs [o0,u64.wrap (o1+u0),o2,o3,o4])):=by kernel_rfl
theorem FMu_n1 {β:Type} (fu:Nat) (G:Option St->Option β) (H:Ex->Option St->Option β) (xs:List Int) (u0 u1 u2 u3 u4 o0 o1 o2 o3 o4:Int):lpR prog (g_FMu T0 R0 f0a f0b T1 R1 f1a f1b T2 R2 f2a f2b f2c f2d f2e) fu FMu_b4 G H (FMu_s4 [u0,u1,u2,u3,u4] 1 xs [o0,o1,o2,o3,o4]) =
 G (some (FMu_s4 [u0,u1,u2,u3,u4] 2 xs [o0,o1,u64.wrap (o2+u1),o3,o4])):=by kernel_rfl
theorem FMu_n2 {β:Type} (fu:Nat) (G:Option St->Option β) (H:Ex->Option St->Option β) (xs:List Int) (u0 u1 u2 u3 u4 o0 o1 o2 o3 o4:Int):lpR prog (g_FMu T0 R0 f0a f0b T1 R1 f1a f1b T2 R2 f2a f2b f2c f2d f2e) fu FMu_b4 G H (FMu_s4 [u0,u1,u2,u3,u4] 2 xs [o0,o1,o2,o3,o4]) =
 G (some (FMu_s4 [u0,u1,u2,u3,u4] 3 xs [o0,o1,o2,u64.wrap (o3+u2),o4])):=by kernel_rfl
theorem FMu_n3 {β:Type} (fu:Nat) (G:Option St->Option β) (H:Ex->Option St->Option β) (xs:List Int) (u0 u1 u2 u3 u4 o0 o1 o2 o3 o4:Int):lpR prog (g_FMu T0 R0 f0a f0b T1 R1 f1a f1b T2 R2 f2a f2b f2c f2d f2e) fu FMu_b4 G H (FMu_s4 [u0,u1,u2,u3,u4] 3 xs [o0,o1,o2,o3,o4]) =
 G (some (FMu_s4 [u0,u1,u2,u3,u4] 4 xs [o0,o1,o2,o3,u64.wrap (o4+u3)])):=by kernel_rfl
theorem FMu_n4 {β:Type} (fu:Nat) (G:Option St->Option β) (H:Ex->Option St->Option β) (xs:List Int) (u0 u1 u2 u3 u4 o0 o1 o2 o3 o4:Int):lpR prog (g_FMu T0 R0 f0a f0b T1 R1 f1a f1b T2 R2 f2a f2b f2c f2d f2e) fu FMu_b4 G H (FMu_s4 [u0,u1,u2,u3,u4] 4 xs [o0,o1,o2,o3,o4]) =
 G (some (FMu_s4 [u0,u1,u2,u3,u4] 5 xs [u64.wrap (o0+u64.wrap (u4*19)),o1,o2,o3,o4])):=by kernel_rfl
theorem FMu_n5 {β:Type} (fu:Nat) (G:Option St->Option β) (H:Ex->Option St->Option β) (xs us os:List Int):lpR prog (g_FMu T0 R0 f0a f0b T1 R1 f1a f1b T2 R2 f2a f2b f2c f2d f2e) fu FMu_b4 G H (FMu_s4 us 5 xs os) =
 H (Ex.exit 6) (some (FMu_o4e6 xs os)):=by kernel_rfl
end
section
variable (T0:Type) (R0:List AV->Option T0) (f0a f0b f0c f0d f0e:T0->Int)
theorem FWh_m1 {β:Type} (fu:Nat) (G:Option St->Option β) (H:Ex->Option St->Option β) (v o0 o1 o2 o3 o4:Int) (ys:List Int):lpR prog (g_FWh T0 R0 f0a f0b f0c f0d f0e) fu FWh_b1 G H (FWh_s1 v 1 [o0,o1,o2,o3,o4] ys) =
 G (some (FWh_s1 (bShr u64 (u64.wrap (o1+v)) 51) 2 [o0,o1,o2,o3,o4] ys)):=by kernel_rfl
theorem FWh_m2 {β:Type} (fu:Nat) (G:Option St->Option β) (H:Ex->Option St->Option β) (v o0 o1 o2 o3 o4:Int) (ys:List Int):lpR prog (g_FWh T0 R0 f0a f0b f0c f0d f0e) fu FWh_b1 G H (FWh_s1 v 2 [o0,o1,o2,o3,o4] ys) =
 G (some (FWh_s1 (bShr u64 (u64.wrap (o2+v)) 51) 3 [o0,o1,o2,o3,o4] ys)):=by kernel_rfl
theorem FWh_m3 {β:Type} (fu:Nat) (G:Option St->Option β) (H:Ex->Option St->Option β) (v o0 o1 o2 o3 o4:Int) (ys:List Int):lpR prog (g_FWh T0 R0 f0a f0b f0c f0d f0e) fu FWh_b1 G H (FWh_s1 v 3 [o0,o1,o2,o3,o4] ys) =
 G (some (FWh_s1 (bShr u64 (u64.wrap (o3+v)) 51) 4 [o0,o1,o2,o3,o4] ys)):=by kernel_rfl
theorem FWh_m4 {β:Type} (fu:Nat) (G:Option St->Option β) (H:Ex->Option St->Option β) (v o0 o1 o2 o3 o4:Int) (ys:List Int):lpR prog (g_FWh T0 R0 f0a f0b f0c f0d f0e) fu FWh_b1 G H (FWh_s1 v 4 [o0,o1,o2,o3,o4] ys) =
 G (some (FWh_s1 (bShr u64 (u64.wrap (o4+v)) 51) 5 [o0,o1,o2,o3,o4] ys)):=by kernel_rfl
theorem FWh_m5 {β:Type} (fu:Nat) (G:Option St->Option β) (H:Ex->Option St->Option β) (v:Int) (xs ys:List Int):lpR prog (g_FWh T0 R0 f0a f0b f0c f0d f0e) fu FWh_b1 G H (FWh_s1 v 5 xs ys) =
 H (Ex.exit 0) (some (FWh_o1e0 v xs ys)):=by kernel_rfl
theorem FWh_n0 {β:Type} (fu:Nat) (G:Option St->Option β) (H:Ex->Option St->Option β) (o0 o1 o2 o3 o4:Int) (ys:List Int):lpR prog (g_FWh T0 R0 f0a f0b f0c f0d f0e) fu FWh_b2 G H (FWh_s2 0 [o0,o1,o2,o3,o4] ys) =
 G (some (FWh_s2 1 [bAnd u64 o0 2251799813685247,u64.wrap (o1+bShr u64 o0 51),o2,o3,o4] ys)):=by kernel_rfl
theorem FWh_n1 {β:Type} (fu:Nat) (G:Option St->Option β) (H:Ex->Option St->Option β) (o0 o1 o2 o3 o4:Int) (ys:List Int):lpR prog (g_FWh T0 R0 f0a f0b f0c f0d f0e) fu FWh_b2 G H (FWh_s2 1 [o0,o1,o2,o3,o4] ys) =
 G (some (FWh_s2 2 [o0,bAnd u64 o1 2251799813685247,u64.wrap (o2+bShr u64 o1 51),o3,o4] ys)):=by kernel_rfl
theorem FWh_n2 {β:Type} (fu:Nat) (G:Option St->Option β) (H:Ex->Option St->Option β) (o0 o1 o2 o3 o4:Int) (ys:List Int):lpR prog (g_FWh T0 R0 f0a f0b f0c f0d f0e) fu FWh_b2 G H (FWh_s2 2 [o0,o1,o2,o3,o4] ys) =
 G (some (FWh_s2 3 [o0,o1,bAnd u64 o2 2251799813685247,u64.wrap (o3+bShr u64 o2 51),o4] ys)):=by kernel_rfl
theorem FWh_n3 {β:Type} (fu:Nat) (G:Option St->Option β) (H:Ex->Option St->Option β) (o0 o1 o2 o3 o4:Int) (ys:List Int):lpR prog (g_FWh T0 R0 f0a f0b f0c f0d f0e) fu FWh_b2 G H (FWh_s2 3 [o0,o1,o2,o3,o4] ys) =
 G (some (FWh_s2 4 [o0,o1,o2,bAnd u64 o3 2251799813685247,u64.wrap (o4+bShr u64 o3 51)] ys)):=by kernel_rfl
theorem FWh_e (fu:Nat) (v o0 o1 o2 o3 o4:Int) (ys:List Int):FWh_k1 T0 R0 f0a f0b f0c f0d f0e fu (Ex.exit 0) (FWh_o1e0 v [o0,o1,o2,o3,o4] ys) =
 lpA prog (g_FWh T0 R0 f0a f0b f0c f0d f0e) fu FWh_b2 (FWh_k2 T0 R0 f0a f0b f0c f0d f0e fu) fu (some (FWh_s2 0 [u64.wrap (o0+u64.wrap (19*v)),o1,o2,o3,o4] ys)):=by kernel_rfl
theorem FWh_f (fu:Nat) (o0 o1 o2 o3 o4:Int) (ys:List Int):FWh_k2 T0 R0 f0a f0b f0c f0d f0e fu (Ex.exit 2) (FWh_o2e2 [o0,o1,o2,o3,o4] ys) =
 some (AV.agg (TRow.ints u64 [o0,o1,o2,o3,bAnd u64 o4 2251799813685247]) 5):=by kernel_rfl
theorem FWh_n4 {β:Type} (fu:Nat) (G:Option St->Option β) (H:Ex->Option St->Option β) (xs ys:List Int):lpR prog (g_FWh T0 R0 f0a f0b f0c f0d f0e) fu FWh_b2 G H (FWh_s2 4 xs ys) =
 H (Ex.exit 2) (some (FWh_o2e2 xs ys)):=by kernel_rfl
end
section
variable (T0:Type) (R0:List AV->Option T0) (f0a:T0->List Int) (T1:Type) (R1:List AV->Option T1) (f1a:T1->List Int) (T2:Type) (R2:List AV->Option T2) (f2a:T2->List Int) (f2b:T2->Bool) (T3:Type) (R3:List AV->Option T3) (f3a f3b:T3->List Int) (f3c:T3->Int)
theorem FWi_m0 {β:Type} (fu:Nat) (G:Option St->Option β) (H:Ex->Option St->Option β) (xs ys:List Int) (o0 o1 o2 o3 o4:Int):lpR prog (g_FWi T0 R0 f0a T1 R1 f1a T2 R2 f2a f2b T3 R3 f3a f3b f3c) fu FWi_b1 G H (FWi_s1 0 xs ys [o0,o1,o2,o3,o4]) =
 (R1 [AV.agg (TRow.ints u64 xs) 8,AV.int i64 (0)]).bind fun (t:T1)=>G (some (FWi_s1 1 xs ys [bAnd u64 ((f1a t).getD 0 0) 2251799813685247,o1,o2,o3,o4])):=by kernel_rfl
theorem FWi_m1 {β:Type} (fu:Nat) (G:Option St->Option β) (H:Ex->Option St->Option β) (xs ys:List Int) (o0 o1 o2 o3 o4:Int):lpR prog (g_FWi T0 R0 f0a T1 R1 f1a T2 R2 f2a f2b T3 R3 f3a f3b f3c) fu FWi_b1 G H (FWi_s1 1 xs ys [o0,o1,o2,o3,o4]) =
 (R1 [AV.agg (TRow.ints u64 xs) 8,AV.int i64 (-51)]).bind fun (t:T1)=>G (some (FWi_s1 2 xs ys [o0,bAnd u64 ((f1a t).getD 0 0) 2251799813685247,o2,o3,o4])):=by kernel_rfl
theorem FWi_m2 {β:Type} (fu:Nat) (G:Option St->Option β) (H:Ex->Option St->Option β) (xs ys:List Int) (o0 o1 o2 o3 o4:Int):lpR prog (g_FWi T0 R0 f0a T1 R1 f1a T2 R2 f2a f2b T3 R3 f3a f3b f3c) fu FWi_b1 G H (FWi_s1 2 xs ys [o0,o1,o2,o3,o4]) =
 (R1 [AV.agg (TRow.ints u64 xs) 8,AV.int i64 (-102)]).bind fun (t:T1)=>G (some (FWi_s1 3 xs ys [o0,o1,bAnd u64 ((f1a t).getD 0 0) 2251799813685247,o3,o4])):=by kernel_rfl
theorem FWi_m3 {β:Type} (fu:Nat) (G:Option St->Option β) (H:Ex->Option St->Option β) (xs ys:List Int) (o0 o1 o2 o3 o4:Int):lpR prog (g_FWi T0 R0 f0a T1 R1 f1a T2 R2 f2a f2b T3 R3 f3a f3b f3c) fu FWi_b1 G H (FWi_s1 3 xs ys [o0,o1,o2,o3,o4]) =
 (R1 [AV.agg (TRow.ints u64 xs) 8,AV.int i64 (-153)]).bind fun (t:T1)=>G (some (FWi_s1 4 xs ys [o0,o1,o2,bAnd u64 ((f1a t).getD 0 0) 2251799813685247,o4])):=by kernel_rfl
theorem FWi_m4 {β:Type} (fu:Nat) (G:Option St->Option β) (H:Ex->Option St->Option β) (xs ys:List Int) (o0 o1 o2 o3 o4:Int):lpR prog (g_FWi T0 R0 f0a T1 R1 f1a T2 R2 f2a f2b T3 R3 f3a f3b f3c) fu FWi_b1 G H (FWi_s1 4 xs ys [o0,o1,o2,o3,o4]) =
 (R1 [AV.agg (TRow.ints u64 xs) 8,AV.int i64 (-204)]).bind fun (t:T1)=>G (some (FWi_s1 5 xs ys [o0,o1,o2,o3,bAnd u64 ((f1a t).getD 0 0) 2251799813685247])):=by kernel_rfl
theorem FWi_m5 {β:Type} (fu:Nat) (G:Option St->Option β) (H:Ex->Option St->Option β) (xs ys zs:List Int):lpR prog (g_FWi T0 R0 f0a T1 R1 f1a T2 R2 f2a f2b T3 R3 f3a f3b f3c) fu FWi_b1 G H (FWi_s1 5 xs ys zs) =
 H (Ex.exit 0) (some (FWi_o1e0 ys zs)):=by kernel_rfl
end
set_option maxRecDepth 4000
theorem runG1_ok {T:Type} {F:Fe->T} {args:List AV} {t:T} (h:runG1 F args=some t):∃ x,args=[eF x] /\ f64 x /\ t=F x:=by
 unfold runG1 at h
 split at h
 ·rename_i a b c d e
  obtain ⟨h1,h2⟩:=ctrueS h
  simp only [inG,in64,Bool.and_eq_true,decide_eq_true_eq] at h1
  obtain ⟨⟨⟨⟨⟨a0,a1⟩,b0,b1⟩,c0,c1⟩,d0,d1⟩,e0,e1⟩:=h1
  obtain ⟨a,rfl⟩:=Int.eq_ofNat_of_zero_le a0
  obtain ⟨b,rfl⟩:=Int.eq_ofNat_of_zero_le b0
  obtain ⟨c,rfl⟩:=Int.eq_ofNat_of_zero_le c0
  obtain ⟨d,rfl⟩:=Int.eq_ofNat_of_zero_le d0
  obtain ⟨e,rfl⟩:=Int.eq_ofNat_of_zero_le e0
  exact ⟨⟨a,b,c,d,e⟩,rfl,⟨by simp only; omega,by simp only; omega,by simp only; omega,by simp only; omega,by simp only; omega⟩,h2.symm⟩
 ·cases h
theorem inF_ok {a b c d e:Int} (h:inF a b c d e=true):∃ x:Fe,a=x.a /\ b=x.b /\ c=x.c /\ d=x.d /\ e=x.e /\ fOk x /\ toF a b c d e=x:=by
 simp only [inF,decide_eq_true_eq] at h
 obtain ⟨a0,a1,b0,b1,c0,c1,d0,d1,e0,e1⟩:=h
 obtain ⟨a,rfl⟩:=Int.eq_ofNat_of_zero_le a0
 obtain ⟨b,rfl⟩:=Int.eq_ofNat_of_zero_le b0
 obtain ⟨c,rfl⟩:=Int.eq_ofNat_of_zero_le c0
 obtain ⟨d,rfl⟩:=Int.eq_ofNat_of_zero_le d0
 obtain ⟨e,rfl⟩:=Int.eq_ofNat_of_zero_le e0
 exact ⟨⟨a,b,c,d,e⟩,rfl,rfl,rfl,rfl,rfl,⟨by simp only; omega,by simp only; omega,by simp only; omega,by simp only; omega,by simp only; omega⟩,rfl⟩
theorem runF1_ok {T:Type} {F:Fe->T} {args:List AV} {t:T} (h:runF1 F args=some t):∃ x,args=[eF x] /\ fOk x /\ t=F x:=by
 unfold runF1 at h
 split at h
 ·obtain ⟨h1,h2⟩:=ctrueS h
  obtain ⟨x,rfl,rfl,rfl,rfl,rfl,hx,ex⟩:=inF_ok h1
  exact ⟨x,rfl,hx,by rw [<-h2,ex]⟩
 ·cases h
theorem runF2_ok {T:Type} {F:Fe->Fe->T} {args:List AV} {t:T} (h:runF2 F args=some t):∃ x y,args=[eF x,eF y] /\ fOk x /\ fOk y /\ t=F x y:=by
 unfold runF2 at h
 split at h
 ·obtain ⟨h1,h2⟩:=ctrueS h
  rw [Bool.and_eq_true] at h1
  obtain ⟨x,rfl,rfl,rfl,rfl,rfl,hx,ex⟩:=inF_ok h1.1
  obtain ⟨y,rfl,rfl,rfl,rfl,rfl,hy,ey⟩:=inF_ok h1.2
  exact ⟨x,y,rfl,hx,hy,by rw [<-h2,ex,ey]⟩
 ·cases h
theorem inF_of {x:Fe} (h:fOk x):inF x.a x.b x.c x.d x.e=true:=by
 obtain ⟨h1,h2,h3,h4,h5⟩:=h
 simp only [inF,decide_eq_true_eq]
 omega
theorem run_F1 {T:Type} (F:Fe->T) {x:Fe} (h:fOk x):runF1 F [eF x]=some (F x):=by
 show cond (inF x.a x.b x.c x.d x.e) (some (F (toF x.a x.b x.c x.d x.e))) none=_
 rw [inF_of h]; rfl
theorem run_F2 {T:Type} (F:Fe->Fe->T) {x y:Fe} (h:fOk x) (h2:fOk y):runF2 F [eF x,eF y]=some (F x y):=by
 show cond (inF x.a x.b x.c x.d x.e && inF y.a y.b y.c y.d y.e) (some (F (toF x.a x.b x.c x.d x.e) (toF y.a y.b y.c y.d y.e))) none=_
 rw [inF_of h,inF_of h2]; rfl
theorem in64n {n:Nat} (h:n < 18446744073709551616):in64 (n:Int)=true:=decide_eq_true (by omega)
theorem run_G1 {T:Type} (F:Fe->T) {x:Fe} (h:f64 x):runG1 F [eF x]=some (F x):=by
 obtain ⟨h1,h2,h3,h4,h5⟩:=h
 show cond (inG x.a x.b x.c x.d x.e) (some (F (toF x.a x.b x.c x.d x.e))) none=_
 rw [inG,in64n h1,in64n h2,in64n h3,in64n h4,in64n h5]; rfl
theorem msk (x:Nat) (h:x < 18446744073709551616):bAnd .u64 (x:Int) 2251799813685247=((x%2251799813685248:Nat):Int):=by
 rw [show (2251799813685247:Int)=((2251799813685247:Nat):Int) from rfl,and64 x _ h (by omega),show (2251799813685247:Nat)=2 ^ 51 - 1 from rfl,Nat.and_two_pow_sub_one_eq_mod]
theorem sh51 (x:Nat):bShr .u64 (x:Int) 51=((x / 2251799813685248:Nat):Int):=shr64 x 51 (by omega)
theorem wcast {x:Nat} (h:x < 18446744073709551616):u64.wrap (x:Int)=x:=wu64 (by omega) (by omega)
theorem wadd {u v:Nat} (h:u+v < 18446744073709551616):u64.wrap ((u:Int)+(v:Int))=((u+v:Nat):Int):=by
 rw [<-Int.natCast_add]; exact wcast h
theorem w19 {u:Nat} (h:u*19 < 18446744073709551616):u64.wrap ((u:Int)*19)=((u*19:Nat):Int):=by
 rw [show (19:Int)=((19:Nat):Int) from rfl,<-Int.natCast_mul]; exact wcast h
abbrev gI_FPa:Cg:=g_FPa (Int × Int) rMul64 (fun t=>t.fst) (fun t=>t.snd) (Int × Int) rAdd64 (fun t=>t.fst) (fun t=>t.snd)
theorem gok_FPa:CfOk prog gI_FPa.c:=⟨gam_cons ok_Mul64 <| gam_cons ok_Add64 <| gam_nil,fun _ _ h=>by cases h⟩
theorem ok_Padd:CallOk prog nF86 sPadd:=by
 refine afunc_okE (g:=gI_FPa) (fu:=fun _=>0) mixed gok_FPa hF86 (by kernel_rfl) ?_
 intro args t ht
 unfold sPadd at ht
 simp only at ht
 split at ht
 ·rename_i h l x y
  obtain ⟨h1,h2⟩:=ctrueS ht
  simp only [Bool.and_eq_true,in64,decide_eq_true_eq] at h1
  obtain ⟨⟨⟨⟨⟨a0,a1⟩,b0,b1⟩,c0,c1⟩,d0,d1⟩,e1⟩:=h1
  have e1:=Nat.blt_eq.mp e1
  obtain ⟨h,rfl⟩:=Int.eq_ofNat_of_zero_le a0
  obtain ⟨l,rfl⟩:=Int.eq_ofNat_of_zero_le b0
  obtain ⟨x,rfl⟩:=Int.eq_ofNat_of_zero_le c0
  obtain ⟨y,rfl⟩:=Int.eq_ofNat_of_zero_le d0
  simp only [Int.toNat_natCast] at h2 e1
  subst h2
  refine (FPa_ev ..).trans ?_
  rw [show rMul64 [.int .u64 (x:Int),.int .u64 (y:Int)]=_ from run_Mul64 x y (by omega) (by omega),Option.bind_some,show rAdd64 [.int .u64 (l:Int),.int .u64 ((x*y%18446744073709551616:Nat):Int),.int .u64 0]=_ from run_Add64_0 l (x*y%18446744073709551616) (by omega) (Nat.mod_lt _ (by decide)),Option.bind_some]
  generalize hP:x*y=p at *
  have hw:u64.wrap (u64.wrap ((h:Int)+((p / 18446744073709551616:Nat):Int))+(((l+p%18446744073709551616) / 18446744073709551616:Nat):Int))=(((18446744073709551616*h+l+p) / 18446744073709551616:Nat):Int):=by
   rw [wu64 (n:=(h:Int)+((p / 18446744073709551616:Nat):Int)) (by omega) (by omega),wu64 (by omega) (by omega)]
   omega
  have hl:(((l+p%18446744073709551616)%18446744073709551616:Nat):Int)=(((18446744073709551616*h+l+p)%18446744073709551616:Nat):Int):=by omega
  show some (AV.agg (TRow.ints u64 [u64.wrap (u64.wrap ((h:Int)+((p / 18446744073709551616:Nat):Int))+(((l+p%18446744073709551616) / 18446744073709551616:Nat):Int)),(((l+p%18446744073709551616)%18446744073709551616:Nat):Int)]) 2)=some (AV.agg (TRow.ints u64 [_,_]) 2)
  rw [hw,hl]
 ·cases ht
theorem run_Padd {s x y:Nat} (hs:s < 1329227995784915872903807060280344576) (hx:x < 18446744073709551616) (hy:y < 18446744073709551616) (h:x*y < 1329227995784915872903807060280344576) :
  rPadd [.agg (.ints .u64 [((s / 18446744073709551616:Nat):Int),((s%18446744073709551616:Nat):Int)]) 2,.int .u64 (x:Int),.int .u64 (y:Int)]=some (s+x*y):=by
 have e:18446744073709551616*(s / 18446744073709551616)+s%18446744073709551616=s:=Nat.div_add_mod ..
 simp only [rPadd,sPadd,Int.toNat_natCast]
 rw [in64n (by omega),in64n (by omega),in64n hx,in64n hy,e,Nat.blt_eq.mpr (by omega)]; rfl
abbrev gI_FPc:Cg:=g_FPc 
theorem gok_FPc:CfOk prog gI_FPc.c:=⟨gam_nil,fun _ _ h=>by cases h⟩
theorem ok_Pcut:CallOk prog nF87 sPcut:=by
 refine afunc_okE (g:=gI_FPc) (fu:=fun _=>0) mixed gok_FPc hF87 (by kernel_rfl) ?_
 intro args t ht
 unfold sPcut at ht
 simp only at ht
 split at ht
 ·rename_i h l
  obtain ⟨h1,h2⟩:=ctrueS ht
  simp only [Bool.and_eq_true,in64,decide_eq_true_eq] at h1
  obtain ⟨⟨⟨a0,a1⟩,b0,b1⟩,e1⟩:=h1
  obtain ⟨h,rfl⟩:=Int.eq_ofNat_of_zero_le a0
  obtain ⟨l,rfl⟩:=Int.eq_ofNat_of_zero_le b0
  simp only [Int.toNat_natCast] at h2 e1
  subst h2
  refine (FPc_ev ..).trans ?_
  have hs:bShl .u64 (h:Int) 13=((h*8192:Nat):Int):=by
   have:=shl64 h 13 (by omega)
   rw [show ((13:Nat):Int)=13 from rfl] at this
   rw [this,show (2:Nat) ^ 13=8192 from rfl,Nat.mod_eq_of_lt (by omega)]
  have ho:h*8192 ||| l / 2251799813685248=h*8192+l / 2251799813685248:=by
   have:=Nat.two_pow_add_eq_or_of_lt (i:=13) (b:=l / 2251799813685248) (by omega) h
   rw [show 2 ^ 13*h=h*8192 by omega] at this
   exact this.symm
  rw [msk l (by omega),sh51,hs,or64 _ _ (by omega) (by omega),ho]
  have e2:l%2251799813685248=(18446744073709551616*h+l)%2251799813685248:=by omega
  have e3:h*8192+l / 2251799813685248=(18446744073709551616*h+l) / 2251799813685248:=by omega
  rw [e2,e3]; rfl
 ·cases ht
theorem run_Pcut {s:Nat} (h:s < 41538374868278621028243970633760768):rPcut [.agg (.ints .u64 [((s / 18446744073709551616:Nat):Int),((s%18446744073709551616:Nat):Int)]) 2]=some (s%2251799813685248,s / 2251799813685248):=by
 have e:18446744073709551616*(s / 18446744073709551616)+s%18446744073709551616=s:=Nat.div_add_mod ..
 simp only [rPcut,sPcut,Int.toNat_natCast]
 rw [in64n (by omega),in64n (by omega),e,decide_eq_true (by omega)]; rfl
abbrev gI_FOf:Cg:=g_FOf 
theorem gok_FOf:CfOk prog gI_FOf.c:=⟨gam_nil,fun _ _ h=>by cases h⟩
theorem ok_FOf:CallOk prog nF35 sFOf:=by
 refine afunc_okE (g:=gI_FOf) (fu:=fun _=>0) mixed gok_FOf hF35 (by kernel_rfl) ?_
 intro args t ht
 unfold sFOf at ht
 simp only at ht
 split at ht
 ·rename_i n
  obtain ⟨h1,h2⟩:=ctrueS ht
  simp only [in64,decide_eq_true_eq] at h1
  obtain ⟨n,rfl⟩:=Int.eq_ofNat_of_zero_le h1.1
  subst h2
  refine (FOf_ev ..).trans ?_
  rw [msk n (by omega),sh51]
  have e:fe n=⟨n%2251799813685248,n / 2251799813685248,0,0,0⟩:=by
   simp only [fe,Fe.mk.injEq]
   refine ⟨trivial,?_,?_,?_,?_⟩ <;> omega
  show _=some (eF (fe n))
  rw [e]; rfl
 ·cases ht
theorem run_FOf {n:Nat} (h:n < 18446744073709551616):rFOf [.int .u64 (n:Int)]=some (fe n):=by
 simp only [rFOf,sFOf,Int.toNat_natCast]
 rw [in64n h]; rfl
abbrev gI_FCa:Cg:=g_FCa 
theorem gok_FCa:CfOk prog gI_FCa.c:=⟨gam_nil,fun _ _ h=>by cases h⟩
theorem ok_Cry:CallOk prog nF88 sCry:=by
 refine afunc_okE (g:=gI_FCa) (fu:=fun _=>0) mixed gok_FCa hF88 (by kernel_rfl) ?_
 intro args t ht
 obtain ⟨x,rfl,hx,rfl⟩:=runG1_ok (F:=cryF) ht
 obtain ⟨h1,h2,h3,h4,h5⟩:=hx
 refine (FCa_ev ..).trans ?_
 rw [msk _ h1,msk _ h2,msk _ h3,msk _ h4,msk _ h5,sh51,sh51,sh51,sh51,sh51,w19 (by omega),wadd (by omega),wadd (by omega),wadd (by omega),wadd (by omega),wadd (by omega)]
 rfl
theorem run_Cry {x:Fe} (h:f64 x):rCry [eF x]=some (cryF x):=by
 simp only [rCry,sCry]
 exact run_G1 cryF h
abbrev gI_FAd:Cg:=g_FAd (Fe) rCry (fun t=>↑t.a) (fun t=>↑t.b) (fun t=>↑t.c) (fun t=>↑t.d) (fun t=>↑t.e)
theorem gok_FAd:CfOk prog gI_FAd.c:=⟨gam_cons ok_Cry <| gam_nil,fun _ _ h=>by cases h⟩
theorem ok_FAdd:CallOk prog nF41 sFAdd:=by
 refine afunc_okE (g:=gI_FAd) (fu:=fun _=>0) mixed gok_FAd hF41 (by kernel_rfl) ?_
 intro args t ht
 obtain ⟨x,y,rfl,hx,hy,rfl⟩:=runF2_ok (F:=addF) ht
 obtain ⟨h1,h2,h3,h4,h5⟩:=hx
 obtain ⟨g1,g2,g3,g4,g5⟩:=hy
 refine (FAd_ev ..).trans ?_
 have hc:=run_Cry (x:=⟨x.a+y.a,x.b+y.b,x.c+y.c,x.d+y.d,x.e+y.e⟩) ⟨by simp only; omega,by simp only; omega,by simp only; omega,by simp only; omega,by simp only; omega⟩
 simp only [eF] at hc
 rw [wadd (by omega),wadd (by omega),wadd (by omega),wadd (by omega),wadd (by omega),hc]
 rfl
theorem run_FAdd {x y:Fe} (h:fOk x) (h2:fOk y):rFAdd [eF x,eF y]=some (addF x y):=by
 simp only [rFAdd,sFAdd]
 exact run_F2 addF h h2
abbrev gI_FSu:Cg:=g_FSu (Fe) rCry (fun t=>↑t.a) (fun t=>↑t.b) (fun t=>↑t.c) (fun t=>↑t.d) (fun t=>↑t.e)
theorem gok_FSu:CfOk prog gI_FSu.c:=⟨gam_cons ok_Cry <| gam_nil,fun _ _ h=>by cases h⟩
theorem ok_FSub:CallOk prog nF44 sFSub:=by
 refine afunc_okE (g:=gI_FSu) (fu:=fun _=>0) mixed gok_FSu hF44 (by kernel_rfl) ?_
 intro args t ht
 obtain ⟨x,y,rfl,hx,hy,rfl⟩:=runF2_ok (F:=subF) ht
 obtain ⟨h1,h2,h3,h4,h5⟩:=hx
 obtain ⟨g1,g2,g3,g4,g5⟩:=hy
 refine (FSu_ev ..).trans ?_
 have hc:=run_Cry (x:=⟨x.a+(4503599627370458 - y.a),x.b+(4503599627370494 - y.b),x.c+(4503599627370494 - y.c),x.d+(4503599627370494 - y.d),x.e+(4503599627370494 - y.e)⟩) ⟨by simp only; omega,by simp only; omega,by simp only; omega,by simp only; omega,by simp only; omega⟩
 have w:∀ (u v k:Nat),u <= 2251799813947392->v <= 2251799813947392->(k=4503599627370458 ∨ k=4503599627370494)->u64.wrap ((u:Int)+u64.wrap ((k:Int) - (v:Int)))=((u+(k - v):Nat):Int):=fun u v k hu hv hk=>by
  rw [wu64 (n:=(k:Int) - v) (by omega) (by omega),wu64 (by omega) (by omega)]
  omega
 rw [show (4503599627370458:Int)=((4503599627370458:Nat):Int) from rfl,show (4503599627370494:Int)=((4503599627370494:Nat):Int) from rfl,
  w _ _ _ h1 g1 (.inl rfl),w _ _ _ h2 g2 (.inr rfl),w _ _ _ h3 g3 (.inr rfl),w _ _ _ h4 g4 (.inr rfl),w _ _ _ h5 g5 (.inr rfl)]
 simp only [eF] at hc
 rw [hc]
 rfl
theorem run_FSub {x y:Fe} (h:fOk x) (h2:fOk y):rFSub [eF x,eF y]=some (subF x y):=by
 simp only [rFSub,sFSub]
 exact run_F2 subF h h2
theorem f0_ok:fOk f0:=by simp [fOk,f0]
abbrev gI_FNe:Cg:=g_FNe (Fe) rFSub (fun t=>↑t.a) (fun t=>↑t.b) (fun t=>↑t.c) (fun t=>↑t.d) (fun t=>↑t.e)
theorem gok_FNe:CfOk prog gI_FNe.c:=⟨gam_cons ok_FSub <| gam_nil,fun _ _ h=>by cases h⟩
theorem ok_FNeg:CallOk prog nF43 sFNeg:=by
 refine afunc_okE (g:=gI_FNe) (fu:=fun _=>0) mixed gok_FNe hF43 (by kernel_rfl) ?_
 intro args t ht
 obtain ⟨x,rfl,hx,rfl⟩:=runF1_ok (F:=fun x=>subF f0 x) ht
 refine (FNe_ev ..).trans ?_
 have hc:=run_FSub f0_ok hx
 simp only [eF,f0] at hc
 rw [show (0:Int)=((0:Nat):Int) from rfl,hc]
 rfl
theorem run_FNeg {x:Fe} (h:fOk x):rFNeg [eF x]=some (subF f0 x):=by
 simp only [rFNeg,sFNeg]
 exact run_F1 (fun x=>subF f0 x) h
abbrev gI_FMu:Cg:=g_FMu (Nat) rPadd (fun t=>↑(t / 18446744073709551616)) (fun t=>↑(t%18446744073709551616)) (Nat × Nat) rPcut (fun t=>↑t.fst) (fun t=>↑t.snd) (Fe) rCry (fun t=>↑t.a) (fun t=>↑t.b) (fun t=>↑t.c) (fun t=>↑t.d) (fun t=>↑t.e)
theorem gok_FMu:CfOk prog gI_FMu.c:=⟨gam_cons ok_Padd <| gam_cons ok_Pcut <| gam_cons ok_Cry <| gam_nil,fun _ _ h=>by cases h⟩
theorem pz:[(0:Int),0,0,0,0,0,0,0,0,0]=[((0 / 18446744073709551616:Nat):Int),((0%18446744073709551616:Nat):Int),((0 / 18446744073709551616:Nat):Int),((0%18446744073709551616:Nat):Int),((0 / 18446744073709551616:Nat):Int),((0%18446744073709551616:Nat):Int),((0 / 18446744073709551616:Nat):Int),((0%18446744073709551616:Nat):Int),((0 / 18446744073709551616:Nat):Int),((0%18446744073709551616:Nat):Int)]:=rfl
theorem mb1 {a b:Nat} (ha:a <= 2251799813947392) (hb:b <= 2251799813947392):a*b <= 5070602402093509226772943601664:=Nat.mul_le_mul ha hb
theorem mb2 {a b:Nat} (ha:a <= 2251799813947392) (hb:b <= 2251799813947392):a*(b*19) <= 96341445639776675308685928431616:=by
 have:=mb1 ha hb
 rw [<-Nat.mul_assoc]; omega
theorem ok_FMul:CallOk prog nF39 sFMul:=by
 refine afunc_okE (g:=gI_FMu) (fu:=fun _=>6) mixed gok_FMu hF39 (by kernel_rfl) ?_
 intro args t ht
 obtain ⟨x,y,rfl,hx,hy,rfl⟩:=runF2_ok (F:=mulF) ht
 obtain ⟨s0,s1,s2,s3,s4⟩:=sF_lt hx hy
 obtain ⟨h1,h2,h3,h4,h5⟩:=hx
 obtain ⟨g1,g2,g3,g4,g5⟩:=hy
 have p00:=mb1 h1 g1
 have p01:=mb1 h1 g2
 have p02:=mb1 h1 g3
 have p03:=mb1 h1 g4
 have p04:=mb1 h1 g5
 have p10:=mb1 h2 g1
 have p11:=mb1 h2 g2
 have p12:=mb1 h2 g3
 have p13:=mb1 h2 g4
 have p14:=mb2 h2 g5
 have p20:=mb1 h3 g1
 have p21:=mb1 h3 g2
 have p22:=mb1 h3 g3
 have p23:=mb2 h3 g4
 have p24:=mb2 h3 g5
 have p30:=mb1 h4 g1
 have p31:=mb1 h4 g2
 have p32:=mb2 h4 g3
 have p33:=mb2 h4 g4
 have p34:=mb2 h4 g5
 have p40:=mb1 h5 g1
 have p41:=mb2 h5 g2
 have p42:=mb2 h5 g3
 have p43:=mb2 h5 g4
 have p44:=mb2 h5 g5
 refine (FMu_ev ..).trans ?_
 rw [pz]
 show lpA prog gI_FMu 6 FMu_b1 _ 6 (some _)=_
 rw [lpA_succ,FMu_q0]
 rw [lpA_succ,FMu_m00,run_Padd (by omega) (by omega) (by omega) (by omega),Option.bind_some]
 rw [lpA_succ,FMu_m01,run_Padd (by omega) (by omega) (by omega) (by omega),Option.bind_some]
 rw [lpA_succ,FMu_m02,run_Padd (by omega) (by omega) (by omega) (by omega),Option.bind_some]
 rw [lpA_succ,FMu_m03,run_Padd (by omega) (by omega) (by omega) (by omega),Option.bind_some]
 rw [lpA_succ,FMu_m04,run_Padd (by omega) (by omega) (by omega) (by omega),Option.bind_some]
 rw [lpA_succ,FMu_m05,kOut_some,FMu_d0]
 rw [lpA_succ,FMu_q1]
 rw [lpA_succ,FMu_m10,run_Padd (by omega) (by omega) (by omega) (by omega),Option.bind_some]
 rw [lpA_succ,FMu_m11,run_Padd (by omega) (by omega) (by omega) (by omega),Option.bind_some]
 rw [lpA_succ,FMu_m12,run_Padd (by omega) (by omega) (by omega) (by omega),Option.bind_some]
 rw [lpA_succ,FMu_m13,run_Padd (by omega) (by omega) (by omega) (by omega),Option.bind_some]
 rw [lpA_succ,FMu_m14,w19 (by omega),run_Padd (by omega) (by omega) (by omega) (by omega),Option.bind_some]
 rw [lpA_succ,FMu_m15,kOut_some,FMu_d1]
 rw [lpA_succ,FMu_q2]
 rw [lpA_succ,FMu_m20,run_Padd (by omega) (by omega) (by omega) (by omega),Option.bind_some]
 rw [lpA_succ,FMu_m21,run_Padd (by omega) (by omega) (by omega) (by omega),Option.bind_some]
 rw [lpA_succ,FMu_m22,run_Padd (by omega) (by omega) (by omega) (by omega),Option.bind_some]
 rw [lpA_succ,FMu_m23,w19 (by omega),run_Padd (by omega) (by omega) (by omega) (by omega),Option.bind_some]
 rw [lpA_succ,FMu_m24,w19 (by omega),run_Padd (by omega) (by omega) (by omega) (by omega),Option.bind_some]
 rw [lpA_succ,FMu_m25,kOut_some,FMu_d2]
 rw [lpA_succ,FMu_q3]
 rw [lpA_succ,FMu_m30,run_Padd (by omega) (by omega) (by omega) (by omega),Option.bind_some]
 rw [lpA_succ,FMu_m31,run_Padd (by omega) (by omega) (by omega) (by omega),Option.bind_some]
 rw [lpA_succ,FMu_m32,w19 (by omega),run_Padd (by omega) (by omega) (by omega) (by omega),Option.bind_some]
 rw [lpA_succ,FMu_m33,w19 (by omega),run_Padd (by omega) (by omega) (by omega) (by omega),Option.bind_some]
 rw [lpA_succ,FMu_m34,w19 (by omega),run_Padd (by omega) (by omega) (by omega) (by omega),Option.bind_some]
 rw [lpA_succ,FMu_m35,kOut_some,FMu_d3]
 rw [lpA_succ,FMu_q4]
 rw [lpA_succ,FMu_m40,run_Padd (by omega) (by omega) (by omega) (by omega),Option.bind_some]
 rw [lpA_succ,FMu_m41,w19 (by omega),run_Padd (by omega) (by omega) (by omega) (by omega),Option.bind_some]
 rw [lpA_succ,FMu_m42,w19 (by omega),run_Padd (by omega) (by omega) (by omega) (by omega),Option.bind_some]
 rw [lpA_succ,FMu_m43,w19 (by omega),run_Padd (by omega) (by omega) (by omega) (by omega),Option.bind_some]
 rw [lpA_succ,FMu_m44,w19 (by omega),run_Padd (by omega) (by omega) (by omega) (by omega),Option.bind_some]
 rw [lpA_succ,FMu_m45,kOut_some,FMu_d4]
 rw [lpA_succ,FMu_q5,kOut_some,FMu_e]
 simp only [Nat.zero_add]
 rw [show x.a*y.a+x.b*(y.e*19)+x.c*(y.d*19)+x.d*(y.c*19)+x.e*(y.b*19)=sF0 x y from rfl,show x.a*y.b+x.b*y.a+x.c*(y.e*19)+x.d*(y.d*19)+x.e*(y.c*19)=sF1 x y from rfl,
  show x.a*y.c+x.b*y.b+x.c*y.a+x.d*(y.e*19)+x.e*(y.d*19)=sF2 x y from rfl,show x.a*y.d+x.b*y.c+x.c*y.b+x.d*y.a+x.e*(y.e*19)=sF3 x y from rfl,
  show x.a*y.e+x.b*y.d+x.c*y.c+x.d*y.b+x.e*y.a=sF4 x y from rfl]
 rw [run_Pcut (s:=sF0 x y) (by omega),Option.bind_some,run_Pcut (s:=sF1 x y) (by omega),Option.bind_some,run_Pcut (s:=sF2 x y) (by omega),Option.bind_some,run_Pcut (s:=sF3 x y) (by omega),Option.bind_some,run_Pcut (s:=sF4 x y) (by omega),Option.bind_some]
 clear p00 p01 p02 p03 p04 p10 p11 p12 p13 p14 p20 p21 p22 p23 p24 p30 p31 p32 p33 p34 p40 p41 p42 p43 p44
 dsimp only
 rw [lpA_succ,FMu_n0,wadd (by omega),lpA_succ,FMu_n1,wadd (by omega),lpA_succ,FMu_n2,wadd (by omega),lpA_succ,FMu_n3,wadd (by omega),lpA_succ,FMu_n4,w19 (by omega),wadd (by omega),lpA_succ,FMu_n5,kOut_some,FMu_c4e6]
 have hc:=run_Cry (x:=⟨sF0 x y%2251799813685248+sF4 x y / 2251799813685248*19,sF1 x y%2251799813685248+sF0 x y / 2251799813685248,sF2 x y%2251799813685248+sF1 x y / 2251799813685248,sF3 x y%2251799813685248+sF2 x y / 2251799813685248,sF4 x y%2251799813685248+sF3 x y / 2251799813685248⟩)
  ⟨by simp only; omega,by simp only; omega,by simp only; omega,by simp only; omega,by simp only; omega⟩
 simp only [eF] at hc
 rw [hc]
 rfl
theorem run_FMul {x y:Fe} (h:fOk x) (h2:fOk y):rFMul [eF x,eF y]=some (mulF x y):=by
 simp only [rFMul,sFMul]
 exact run_F2 mulF h h2
abbrev gI_FSq:Cg:=g_FSq (Fe) rFMul (fun t=>↑t.a) (fun t=>↑t.b) (fun t=>↑t.c) (fun t=>↑t.d) (fun t=>↑t.e)
theorem gok_FSq:CfOk prog gI_FSq.c:=⟨gam_cons ok_FMul <| gam_nil,fun _ _ h=>by cases h⟩
theorem ok_FSq:CallOk prog nF40 sFSq:=by
 refine afunc_okE (g:=gI_FSq) (fu:=fun _=>0) mixed gok_FSq hF40 (by kernel_rfl) ?_
 intro args t ht
 obtain ⟨x,rfl,hx,rfl⟩:=runF1_ok (F:=fun x=>mulF x x) ht
 refine (FSq_ev ..).trans ?_
 have hc:=run_FMul hx hx
 simp only [eF] at hc
 rw [hc]
 rfl
theorem run_FSq {x:Fe} (h:fOk x):rFSq [eF x]=some (mulF x x):=by
 simp only [rFSq,sFSq]
 exact run_F1 (fun x=>mulF x x) h
abbrev gI_FPo:Cg:=g_FPo (Fe) rFOf (fun t=>↑t.a) (fun t=>↑t.b) (fun t=>↑t.c) (fun t=>↑t.d) (fun t=>↑t.e) (Fe) rFSq (fun t=>↑t.a) (fun t=>↑t.b) (fun t=>↑t.c) (fun t=>↑t.d) (fun t=>↑t.e) (Fe) rFMul (fun t=>↑t.a) (fun t=>↑t.b) (fun t=>↑t.c) (fun t=>↑t.d) (fun t=>↑t.e)
theorem gok_FPo:CfOk prog gI_FPo.c:=⟨gam_cons ok_FOf <| gam_cons ok_FSq <| gam_cons ok_FMul <| gam_nil,fun _ _ h=>by cases h⟩
theorem bit8 (low i:Nat) (hl:low <= 256) (hi:i < 8):(decide (bAnd u64 (bShr u64 (low:Int) (i:Int)) 1=1))=Nat.beq (low / 2 ^ i%2) 1:=by
 rw [shr64 low i (by omega),and1 _ (Nat.lt_of_le_of_lt (Nat.div_le_self ..) (by omega)),beq_dec]
 congr 1
 rw [show (1:Int)=((1:Nat):Int) from rfl]
 exact propext Int.ofNat_inj
theorem po_loop (x:Fe) (hx:fOk x) (low:Nat) (hl:low <= 256) (ys:List Int) (fu:Nat):∀ (i n:Nat) (o:Fe),fOk o->i < n->i <= 255 ->
  lpA prog gI_FPo fu FPo_b1 (FPo_k1 _ rFOf (fun t=>(t.a:Int)) (fun t=>(t.b:Int)) (fun t=>(t.c:Int)) (fun t=>(t.d:Int)) (fun t=>(t.e:Int)) _ rFSq (fun t=>(t.a:Int)) (fun t=>(t.b:Int)) (fun t=>(t.c:Int)) (fun t=>(t.d:Int)) (fun t=>(t.e:Int)) _ rFMul (fun t=>(t.a:Int)) (fun t=>(t.b:Int)) (fun t=>(t.c:Int)) (fun t=>(t.d:Int)) (fun t=>(t.e:Int)) fu) n
   (some (FPo_s1 (low:Int) ((i:Int) - 1) [(x.a:Int),x.b,x.c,x.d,x.e] ys [(o.a:Int),o.b,o.c,o.d,o.e]))=some (eF (powF x low i o)):=by
 intro i
 induction i with
 | zero=>
  intro n o ho hn _
  obtain ⟨n,rfl⟩:=Nat.exists_eq_succ_of_ne_zero (by omega:n ≠ 0)
  rw [lpA_succ,FPo_r1,decide_eq_false (by omega),cond_false,kOut_some,FPo_c1e0]; rfl
 | succ i ih=>
  intro n o ho hn hi
  obtain ⟨n,rfl⟩:=Nat.exists_eq_succ_of_ne_zero (by omega:n ≠ 0)
  have hs:=run_FSq ho
  have hm:=run_FMul (mul_ok ho ho) hx
  simp only [eF] at hs hm
  rw [show (((i+1:Nat):Int) - 1)=(i:Int) by omega,lpA_succ,FPo_r1,decide_eq_true (by omega),cond_true,hs,Option.bind_some,wi64 (by omega) (by omega),powF]
  by_cases c:8 <= i
  ·rw [decide_eq_true (by omega:(8:Int) <= (i:Int)),cond_true,hm,Option.bind_some,decide_eq_true c,Bool.true_or,cond_true]
   exact ih n _ (mul_ok (mul_ok ho ho) hx) (by omega) (by omega)
  ·rw [decide_eq_false (by omega:¬ (8:Int) <= (i:Int)),cond_false,decide_eq_false (by omega),cond_false,bit8 low i hl (by omega),decide_eq_false c,Bool.false_or]
   cases Nat.beq (low / 2 ^ i%2) 1
   ·rw [cond_false,cond_false]
    exact ih n _ (mul_ok ho ho) (by omega) (by omega)
   ·rw [cond_true,cond_true,hm,Option.bind_some]
    exact ih n _ (mul_ok (mul_ok ho ho) hx) (by omega) (by omega)
theorem ok_Pow:CallOk prog nF125 sPow:=by
 refine afunc_okE (g:=gI_FPo) (fu:=fun _=>300) mixed gok_FPo hF125 (by kernel_rfl) ?_
 intro args t ht
 unfold sPow at ht
 simp only at ht
 split at ht
 ·rename_i a b c d e n less
  obtain ⟨h1,h2⟩:=ctrueS ht
  simp only [Bool.and_eq_true,decide_eq_true_eq] at h1
  obtain ⟨⟨h1,n0,n1⟩,l0,l1⟩:=h1
  obtain ⟨x,rfl,rfl,rfl,rfl,rfl,hx,ex⟩:=inF_ok h1
  obtain ⟨n,rfl⟩:=Int.eq_ofNat_of_zero_le n0
  obtain ⟨less,rfl⟩:=Int.eq_ofNat_of_zero_le l0
  subst h2
  rw [ex]
  refine (FPo_ev ..).trans ?_
  have h1:=run_FOf (n:=1) (by decide)
  rw [show ((1:Nat):Int)=1 from rfl] at h1
  rw [h1,Option.bind_some,wi64 (by omega) (by omega),show (256:Int) - (less:Int)=((256 - less:Nat):Int) by omega,wcast (by omega)]
  exact po_loop x hx (256 - less) (by omega) _ 300 n 300 (fe 1) (fe_ok 1) (by omega) (by omega)
 ·cases ht
theorem run_Pow {x:Fe} {n less:Nat} (h:fOk x) (hn:n <= 255) (hl:less <= 256):rPow [eF x,.int .i64 (n:Int),.int .u64 (less:Int)]=some (powF x (256 - less) n (fe 1)):=by
 simp only [rPow,sPow,eF,Int.toNat_natCast]
 rw [inF_of h,decide_eq_true (by omega),decide_eq_true (by omega)]; rfl
abbrev gI_FIn:Cg:=g_FIn (Fe) rPow (fun t=>↑t.a) (fun t=>↑t.b) (fun t=>↑t.c) (fun t=>↑t.d) (fun t=>↑t.e)
theorem gok_FIn:CfOk prog gI_FIn.c:=⟨gam_cons ok_Pow <| gam_nil,fun _ _ h=>by cases h⟩
theorem ok_Inv:CallOk prog nF110 sInv:=by
 refine afunc_okE (g:=gI_FIn) (fu:=fun _=>0) mixed gok_FIn hF110 (by kernel_rfl) ?_
 intro args t ht
 obtain ⟨x,rfl,hx,rfl⟩:=runF1_ok (F:=invF) ht
 refine (FIn_ev ..).trans ?_
 have hc:=run_Pow (n:=255) (less:=21) hx (by omega) (by omega)
 simp only [eF] at hc
 rw [show (255:Int)=((255:Nat):Int) from rfl,show (21:Int)=((21:Nat):Int) from rfl,hc]
 rfl
theorem run_Inv {x:Fe} (h:fOk x):rInv [eF x]=some (invF x):=by
 simp only [rInv,sInv]
 exact run_F1 invF h
abbrev gI_FRo:Cg:=g_FRo (Fe) rPow (fun t=>↑t.a) (fun t=>↑t.b) (fun t=>↑t.c) (fun t=>↑t.d) (fun t=>↑t.e)
theorem gok_FRo:CfOk prog gI_FRo.c:=⟨gam_cons ok_Pow <| gam_nil,fun _ _ h=>by cases h⟩
theorem ok_RootF:CallOk prog nF89 sRootF:=by
 refine afunc_okE (g:=gI_FRo) (fu:=fun _=>0) mixed gok_FRo hF89 (by kernel_rfl) ?_
 intro args t ht
 obtain ⟨x,rfl,hx,rfl⟩:=runF1_ok (F:=rootF) ht
 refine (FRo_ev ..).trans ?_
 have hc:=run_Pow (n:=252) (less:=3) hx (by omega) (by omega)
 simp only [eF] at hc
 rw [show (252:Int)=((252:Nat):Int) from rfl,show (3:Int)=((3:Nat):Int) from rfl,hc]
 rfl
theorem run_RootF {x:Fe} (h:fOk x):rRootF [eF x]=some (rootF x):=by
 simp only [rRootF,sRootF]
 exact run_F1 rootF h
set_option maxRecDepth 4000
theorem wadd19 {u:Nat} (h:u+19 < 18446744073709551616):u64.wrap ((u:Int)+19)=((u+19:Nat):Int):=wadd (v:=19) h
theorem w19l {u:Nat} (h:19*u < 18446744073709551616):u64.wrap (19*(u:Int))=((19*u:Nat):Int):=by
 rw [show (19:Int)=((19:Nat):Int) from rfl,<-Int.natCast_mul]; exact wcast h
abbrev gI_FWh:Cg:=g_FWh (Fe) rCry (fun t=>↑t.a) (fun t=>↑t.b) (fun t=>↑t.c) (fun t=>↑t.d) (fun t=>↑t.e)
theorem gok_FWh:CfOk prog gI_FWh.c:=⟨gam_cons ok_Cry <| gam_nil,fun _ _ h=>by cases h⟩
theorem ok_FWhole:CallOk prog nF99 sFWhole:=by
 refine afunc_okE (g:=gI_FWh) (fu:=fun _=>6) mixed gok_FWh hF99 (by kernel_rfl) ?_
 intro args t ht
 obtain ⟨x,rfl,hx,rfl⟩:=runF1_ok (F:=whF) ht
 have c1:=run_Cry (fOk_64 hx)
 have c2:=run_Cry (fOk_64 (cry_ok (fOk_64 hx)))
 have hm:fv (cryF (cryF x))%P25=fv x%P25:=by rw [cry_mod,cry_mod]
 obtain ⟨h1,h2,h3,h4,h5⟩:=cry2_lt hx
 generalize hy:cryF (cryF x)=y at *
 simp only [eF] at c1 c2
 refine (FWh_ev ..).trans ?_
 rw [c1,Option.bind_some,c2,Option.bind_some]
 show lpA prog gI_FWh 6 FWh_b1 _ 6 (some _)=_
 have b0:(y.a+19) / 2251799813685248 <= 1:=by omega
 generalize e0:(y.a+19) / 2251799813685248=o0 at *
 have b1:(y.b+o0) / 2251799813685248 <= 1:=by omega
 generalize e1:(y.b+o0) / 2251799813685248=o1 at *
 have b2:(y.c+o1) / 2251799813685248 <= 1:=by omega
 generalize e2:(y.c+o1) / 2251799813685248=o2 at *
 have b3:(y.d+o2) / 2251799813685248 <= 1:=by omega
 generalize e3:(y.d+o2) / 2251799813685248=o3 at *
 have b4:(y.e+o3) / 2251799813685248 <= 1:=by omega
 generalize e4:(y.e+o3) / 2251799813685248=o4 at *
 rw [wadd19 (by omega),sh51,e0,lpA_succ,FWh_m1,wadd (by omega),sh51,e1,lpA_succ,FWh_m2,wadd (by omega),sh51,e2,lpA_succ,FWh_m3,wadd (by omega),sh51,e3,lpA_succ,FWh_m4,wadd (by omega),sh51,e4,lpA_succ,FWh_m5,kOut_some,FWh_e,w19l (by omega),wadd (by omega)]
 rw [lpA_succ,FWh_n0,sh51,wadd (by omega),msk _ (by omega),lpA_succ,FWh_n1,sh51,wadd (by omega),msk _ (by omega),lpA_succ,FWh_n2,sh51,wadd (by omega),msk _ (by omega),lpA_succ,FWh_n3,sh51,wadd (by omega),msk _ (by omega),lpA_succ,FWh_n4,kOut_some,FWh_f,msk _ (by omega)]
 have key:=wh_arith (a:=y.a) (b:=y.b) (c:=y.c) (d:=y.d) (e:=y.e) h1 h2 h3 h4 h5 e0.symm e1.symm e2.symm e3.symm e4.symm rfl rfl rfl rfl rfl
 show _=some (eF (whF x))
 rw [whF,<-hm,show y=⟨y.a,y.b,y.c,y.d,y.e⟩ from rfl,key]
 rfl
theorem run_FWhole {x:Fe} (h:fOk x):rFWhole [eF x]=some (whF x):=by
 simp only [rFWhole,sFWhole]
 exact run_F1 whF h
theorem wh_lt (x:Fe):fv (whF x)=fv x%P25:=fv_fe (Nat.lt_trans (Nat.mod_lt _ (by decide)) (by decide))
theorem modP_lt (n:Nat):n%P25 < P25:=Nat.mod_lt _ (by decide)
abbrev gI_FOd:Cg:=g_FOd (Fe) rFWhole (fun t=>↑t.a) (fun t=>↑t.b) (fun t=>↑t.c) (fun t=>↑t.d) (fun t=>↑t.e)
theorem gok_FOd:CfOk prog gI_FOd.c:=⟨gam_cons ok_FWhole <| gam_nil,fun _ _ h=>by cases h⟩
theorem wh_odd (x:Fe):decide (bAnd u64 ((whF x).a:Int) 1=1)=oddF x:=by
 have hl:(whF x).a < 2251799813685248:=fe_lt.1
 have e:fv (whF x)%2=(whF x).a%2:=by simp only [fv]; omega
 rw [and1 _ (by omega),oddF,<-wh_lt,e,beq_dec]
 congr 1
 rw [show (1:Int)=((1:Nat):Int) from rfl]
 exact propext Int.ofNat_inj
theorem ok_Odd:CallOk prog nF55 sOdd:=by
 refine afunc_okE (g:=gI_FOd) (fu:=fun _=>0) mixed gok_FOd hF55 (by kernel_rfl) ?_
 intro args t ht
 obtain ⟨x,rfl,hx,rfl⟩:=runF1_ok (F:=oddF) ht
 have c:=run_FWhole hx
 simp only [eF] at c
 refine (FOd_ev ..).trans ?_
 rw [c,Option.bind_some,wh_odd]
 rfl
theorem run_Odd {x:Fe} (h:fOk x):rOdd [eF x]=some (oddF x):=by
 simp only [rOdd,sOdd]
 exact run_F1 oddF h
theorem fe_inj {m n:Nat} (hm:m < P25) (hn:n < P25):(([((fe m).a:Int),(fe m).b,(fe m).c,(fe m).d,(fe m).e]:List Int)=[((fe n).a:Int),(fe n).b,(fe n).c,(fe n).d,(fe n).e]) ↔ m=n:=by
 constructor
 ·intro h
  simp only [List.cons.injEq,Int.ofNat_inj,and_true] at h
  obtain ⟨h1,h2,h3,h4,h5⟩:=h
  have:fe m=fe n:=by
   cases hm':fe m
   cases hn':fe n
   rw [hm',hn'] at h1 h2 h3 h4 h5
   simp only at h1 h2 h3 h4 h5
   rw [h1,h2,h3,h4,h5]
  have:=congrArg fv this
  rwa [fv_fe (Nat.lt_trans hm (by decide)),fv_fe (Nat.lt_trans hn (by decide))] at this
 ·intro h
  rw [h]
theorem fe_zero:fe 0=f0:=rfl
abbrev gI_FZe:Cg:=g_FZe (Fe) rFWhole (fun t=>↑t.a) (fun t=>↑t.b) (fun t=>↑t.c) (fun t=>↑t.d) (fun t=>↑t.e)
theorem gok_FZe:CfOk prog gI_FZe.c:=⟨gam_cons ok_FWhole <| gam_nil,fun _ _ h=>by cases h⟩
theorem ok_Zer:CallOk prog nF59 sZer:=by
 refine afunc_okE (g:=gI_FZe) (fu:=fun _=>0) mixed gok_FZe hF59 (by kernel_rfl) ?_
 intro args t ht
 obtain ⟨x,rfl,hx,rfl⟩:=runF1_ok (F:=zerF) ht
 have c:=run_FWhole hx
 simp only [eF] at c
 refine (FZe_ev ..).trans ?_
 rw [c,Option.bind_some]
 have e:=fe_inj (modP_lt (fv x)) (n:=0) (by decide)
 rw [fe_zero] at e
 show some (AV.bool (decide ([((whF x).a:Int),(whF x).b,(whF x).c,(whF x).d,(whF x).e]=[((f0.a:Nat):Int),(f0.b:Nat),(f0.c:Nat),(f0.d:Nat),(f0.e:Nat)])))=some (AV.bool (zerF x))
 rw [zerF,beq_dec,whF,decide_eq_decide.2 e]
theorem run_Zer {x:Fe} (h:fOk x):rZer [eF x]=some (zerF x):=by
 simp only [rZer,sZer]
 exact run_F1 zerF h
abbrev gI_FSa:Cg:=g_FSa (Fe) rFWhole (fun t=>↑t.a) (fun t=>↑t.b) (fun t=>↑t.c) (fun t=>↑t.d) (fun t=>↑t.e)
theorem gok_FSa:CfOk prog gI_FSa.c:=⟨gam_cons ok_FWhole <| gam_nil,fun _ _ h=>by cases h⟩
theorem ok_Sam:CallOk prog nF90 sSam:=by
 refine afunc_okE (g:=gI_FSa) (fu:=fun _=>0) mixed gok_FSa hF90 (by kernel_rfl) ?_
 intro args t ht
 obtain ⟨x,y,rfl,hx,hy,rfl⟩:=runF2_ok (F:=samF) ht
 have c:=run_FWhole hx
 have c2:=run_FWhole hy
 simp only [eF] at c c2
 refine (FSa_ev ..).trans ?_
 rw [c,Option.bind_some,c2,Option.bind_some]
 have e:=fe_inj (modP_lt (fv x)) (modP_lt (fv y))
 show some (AV.bool (decide ([((whF x).a:Int),(whF x).b,(whF x).c,(whF x).d,(whF x).e]=[((whF y).a:Int),(whF y).b,(whF y).c,(whF y).d,(whF y).e])))=some (AV.bool (samF x y))
 rw [samF,beq_dec,whF,whF,decide_eq_decide.2 e]
theorem run_Sam {x y:Fe} (h:fOk x) (h2:fOk y):rSam [eF x,eF y]=some (samF x y):=by
 simp only [rSam,sSam]
 exact run_F2 samF h h2
abbrev gI_FAb:Cg:=g_FAb (Bool) rOdd (fun t=>t) (Fe) rFNeg (fun t=>↑t.a) (fun t=>↑t.b) (fun t=>↑t.c) (fun t=>↑t.d) (fun t=>↑t.e)
theorem gok_FAb:CfOk prog gI_FAb.c:=⟨gam_cons ok_Odd <| gam_cons ok_FNeg <| gam_nil,fun _ _ h=>by cases h⟩
theorem ok_FAbs:CallOk prog nF46 sFAbs:=by
 refine afunc_okE (g:=gI_FAb) (fu:=fun _=>0) mixed gok_FAb hF46 (by kernel_rfl) ?_
 intro args t ht
 obtain ⟨x,rfl,hx,rfl⟩:=runF1_ok (F:=absF) ht
 have c:=run_Odd hx
 have c2:=run_FNeg hx
 simp only [eF] at c c2
 refine (FAb_ev ..).trans ?_
 rw [c,Option.bind_some]
 show _=some (eF (absF x))
 rw [absF]
 cases oddF x
 ·rfl
 ·rw [cond_true,c2,Option.bind_some]; rfl
theorem run_FAbs {x:Fe} (h:fOk x):rFAbs [eF x]=some (absF x):=by
 simp only [rFAbs,sFAbs]
 exact run_F1 absF h
end
end Go.Eng
