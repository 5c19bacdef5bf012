import Derived.Test.YtmicbaijcbkmjaaGreatZF4
namespace Go.Eng
set_option linter.unusedVariables false
section
variable {q:Nat} [NeZero q]
def On (d x y:Fin q):Prop:=y*y - x*x=1+d*x*x*y*y
structure Cur (q:Nat) [NeZero q] where
 d:Fin q
 i:Fin q
 inv:Fin q->Fin q
 noz:∀ a b:Fin q,a*b=0->a=0 ∨ b=0
 inv_mul:∀ a:Fin q,a ≠ 0->a*inv a=1
 ii:i*i=-1
 nsq:∀ a b:Fin q,a*a=d*(b*b)->b=0
 h1:(1:Fin q) ≠ 0
 h2:(2:Fin q) ≠ 0
theorem Cur.can (C:Cur q) {a b c:Fin q} (hc:c ≠ 0) (h:a*c=b*c):a=b:=by
 have:(a - b)*c=0:=by grind (splits:=0) -lia -linarith
 rcases C.noz _ _ this with h | h
 ·grind (splits:=0) -lia -linarith
 ·exact absurd h hc
theorem Cur.mul_ne (C:Cur q) {a b:Fin q} (ha:a ≠ 0) (hb:b ≠ 0):a*b ≠ 0:=λ h=>(C.noz _ _ h).elim ha hb
theorem Cur.i_ne (C:Cur q):C.i ≠ 0:=λ h=>by
 have:=C.ii;rw [h] at this;have h2:(1:Fin q)=0:=by grind (splits:=0) -lia -linarith
 exact C.h1 h2
theorem Cur.full (C:Cur q) {x1 y1 x2 y2 e:Fin q} (o1:On C.d x1 y1) (o2:On C.d x2 y2) (he:e*e=1):C.d*x1*y1*x2*y2 ≠ e:=by
 intro h;have e0:e ≠ 0:=λ h0=>C.h1 (by rw [<-he,h0]; grind (splits:=0) -lia -linarith);have hi:=C.ii;have o1':y1*y1 - x1*x1=1+C.d*x1*x1*y1*y1:=o1;have o2':y2*y2 - x2*x2=1+C.d*x2*x2*y2*y2:=o2;have hx1:x1 ≠ 0:=λ h0=>e0 (by rw [<-h,h0]; grind (splits:=0) -lia -linarith);have hy1:y1 ≠ 0:=λ h0=>e0 (by rw [<-h,h0]; grind (splits:=0) -lia -linarith);have hy2:y2 ≠ 0:=λ h0=>e0 (by rw [<-h,h0]; grind (splits:=0) -lia -linarith);have k1:(C.i*x1+e*y1)*(C.i*x1+e*y1)=C.d*((x1*y1*(C.i*x2+y2))*(x1*y1*(C.i*x2+y2))):=by
  clear hx1 hy1 hy2 e0 o1 o2;grind (splits:=0) -lia -linarith
 have k2:(C.i*x1 - e*y1)*(C.i*x1 - e*y1)=C.d*((x1*y1*(C.i*x2 - y2))*(x1*y1*(C.i*x2 - y2))):=by
  clear hx1 hy1 hy2 e0 o1 o2;grind (splits:=0) -lia -linarith
 have hxy:=C.mul_ne hx1 hy1;have z1:C.i*x2+y2=0:=(C.noz _ _ (C.nsq _ _ k1)).resolve_left hxy;have z2:C.i*x2 - y2=0:=(C.noz _ _ (C.nsq _ _ k2)).resolve_left hxy;have z3:2*y2=0:=by grind (splits:=0) -lia -linarith
 exact (C.noz _ _ z3).elim C.h2 hy2
theorem ZB (d x1 y1 x2 y2 x3 y3:Fin q):((x1*y2+x2*y1)*(1-d*x1*y1*x2*y2)*y3+x3*((y1*y2+x1*x2)*(1+d*x1*y1*x2*y2)))*((1+d*x2*y2*x3*y3)*(1-d*x2*y2*x3*y3)+d*x1*y1*(x2*y3+x3*y2)*(y2*y3+x2*x3)) - (x1*((y2*y3+x2*x3)*(1+d*x2*y2*x3*y3))+(x2*y3+x3*y2)*(1-d*x2*y2*x3*y3)*y1)*((1+d*x1*y1*x2*y2)*(1-d*x1*y1*x2*y2)+d*(x1*y2+x2*y1)*(y1*y2+x1*x2)*x3*y3)=(-d*d*x1*x2*x2*x2*x2*y2*y2*y2*x3*x3*y3 - d*d*x1*x2*x2*x2*y2*y2*y2*y2*x3*y3*y3+d*d*y1*x2*x2*x2*x2*y2*y2*y2*x3*y3*y3+d*d*y1*x2*x2*x2*y2*y2*y2*y2*x3*x3*y3 - d*x1*x2*x2*x2*x2*y2*x3*x3*y3 - d*x1*x2*x2*x2*y2*y2*x3*x3*x3 - d*x1*x2*x2*x2*y2*y2*x3+d*x1*x2*x2*y2*y2*y2*y3*y3*y3 - d*x1*x2*x2*y2*y2*y2*y3+d*x1*x2*y2*y2*y2*y2*x3*y3*y3+d*y1*x2*x2*x2*x2*y2*x3*y3*y3+d*y1*x2*x2*x2*y2*y2*y3*y3*y3 - d*y1*x2*x2*x2*y2*y2*y3 - d*y1*x2*x2*y2*y2*y2*x3*x3*x3 - d*y1*x2*x2*y2*y2*y2*x3 - d*y1*x2*y2*y2*y2*y2*x3*x3*y3)*(y1*y1-x1*x1-1-d*x1*x1*y1*y1)+(d*d*x1*x1*y1*x2*x2*y2*x3*x3*x3*y3*y3 - d*d*x1*x1*y1*x2*y2*y2*x3*x3*y3*y3*y3 - d*d*x1*y1*y1*x2*x2*y2*x3*x3*y3*y3*y3+d*d*x1*y1*y1*x2*y2*y2*x3*x3*x3*y3*y3+d*x1*x1*x1*x2*x2*y2*x3*x3*y3+d*x1*x1*x1*x2*y2*y2*x3*y3*y3+d*x1*x1*x1*x2*x3*x3*x3*y3*y3+d*x1*x1*x1*y2*x3*x3*y3*y3*y3 - d*x1*x1*y1*x2*x2*y2*x3*y3*y3 - d*x1*x1*y1*x2*y2*y2*x3*x3*y3+d*x1*x1*y1*x2*x3*x3*y3*y3*y3+d*x1*x1*y1*y2*x3*x3*x3*y3*y3 - d*x1*y1*y1*x2*x2*y2*x3*x3*y3 - d*x1*y1*y1*x2*y2*y2*x3*y3*y3 - d*x1*y1*y1*x2*x3*x3*x3*y3*y3 - d*x1*y1*y1*y2*x3*x3*y3*y3*y3+d*x1*x2*x2*y2*x3*x3*y3+d*x1*x2*y2*y2*x3*y3*y3+d*x1*x2*x3*x3*x3*y3*y3+d*x1*y2*x3*x3*y3*y3*y3+d*y1*y1*y1*x2*x2*y2*x3*y3*y3+d*y1*y1*y1*x2*y2*y2*x3*x3*y3 - d*y1*y1*y1*x2*x3*x3*y3*y3*y3 - d*y1*y1*y1*y2*x3*x3*x3*y3*y3 - d*y1*x2*x2*y2*x3*y3*y3 - d*y1*x2*y2*y2*x3*x3*y3+d*y1*x2*x3*x3*y3*y3*y3+d*y1*y2*x3*x3*x3*y3*y3+x1*x1*x1*x2*x3*x3*x3 - x1*x1*x1*x2*x3*y3*y3+x1*x1*x1*x2*x3+x1*x1*x1*y2*x3*x3*y3 - x1*x1*x1*y2*y3*y3*y3+x1*x1*x1*y2*y3+x1*x1*y1*x2*x3*x3*y3 - x1*x1*y1*x2*y3*y3*y3+x1*x1*y1*x2*y3+x1*x1*y1*y2*x3*x3*x3 - x1*x1*y1*y2*x3*y3*y3+x1*x1*y1*y2*x3 - x1*y1*y1*x2*x3*x3*x3+x1*y1*y1*x2*x3*y3*y3 - x1*y1*y1*x2*x3 - x1*y1*y1*y2*x3*x3*y3+x1*y1*y1*y2*y3*y3*y3 - x1*y1*y1*y2*y3+x1*x2*x3*x3*x3 - x1*x2*x3*y3*y3+x1*x2*x3+x1*y2*x3*x3*y3 - x1*y2*y3*y3*y3+x1*y2*y3 - y1*y1*y1*x2*x3*x3*y3+y1*y1*y1*x2*y3*y3*y3 - y1*y1*y1*x2*y3 - y1*y1*y1*y2*x3*x3*x3+y1*y1*y1*y2*x3*y3*y3 - y1*y1*y1*y2*x3+y1*x2*x3*x3*y3 - y1*x2*y3*y3*y3+y1*x2*y3+y1*y2*x3*x3*x3 - y1*y2*x3*y3*y3+y1*y2*x3)*(y2*y2-x2*x2-1-d*x2*x2*y2*y2)+(-d*x1*x1*y1*x2*x2*y2*x3+d*x1*x1*y1*x2*y2*y2*y3+d*x1*y1*y1*x2*x2*y2*y3 - d*x1*y1*y1*x2*y2*y2*x3 - x1*x1*x1*x2*x2*x2*x3 - x1*x1*x1*x2*x2*y2*y3+x1*x1*x1*x2*y2*y2*x3 - x1*x1*x1*x2*x3+x1*x1*x1*y2*y2*y2*y3 - x1*x1*x1*y2*y3 - x1*x1*y1*x2*x2*x2*y3 - x1*x1*y1*x2*x2*y2*x3+x1*x1*y1*x2*y2*y2*y3 - x1*x1*y1*x2*y3+x1*x1*y1*y2*y2*y2*x3 - x1*x1*y1*y2*x3+x1*y1*y1*x2*x2*x2*x3+x1*y1*y1*x2*x2*y2*y3 - x1*y1*y1*x2*y2*y2*x3+x1*y1*y1*x2*x3 - x1*y1*y1*y2*y2*y2*y3+x1*y1*y1*y2*y3 - x1*x2*x2*x2*x3 - x1*x2*x2*y2*y3+x1*x2*y2*y2*x3 - x1*x2*x3+x1*y2*y2*y2*y3 - x1*y2*y3+y1*y1*y1*x2*x2*x2*y3+y1*y1*y1*x2*x2*y2*x3 - y1*y1*y1*x2*y2*y2*y3+y1*y1*y1*x2*y3 - y1*y1*y1*y2*y2*y2*x3+y1*y1*y1*y2*x3 - y1*x2*x2*x2*y3 - y1*x2*x2*y2*x3+y1*x2*y2*y2*y3 - y1*x2*y3+y1*y2*y2*y2*x3 - y1*y2*x3)*(y3*y3-x3*x3-1-d*x3*x3*y3*y3):=by grind (splits:=0) -lia -linarith
theorem ZC (d x1 y1 x2 y2 x3 y3:Fin q):((y1*y2+x1*x2)*(1+d*x1*y1*x2*y2)*y3+(x1*y2+x2*y1)*(1-d*x1*y1*x2*y2)*x3)*((1+d*x2*y2*x3*y3)*(1-d*x2*y2*x3*y3)-d*x1*y1*(x2*y3+x3*y2)*(y2*y3+x2*x3)) - (y1*((y2*y3+x2*x3)*(1+d*x2*y2*x3*y3))+x1*((x2*y3+x3*y2)*(1-d*x2*y2*x3*y3)))*((1+d*x1*y1*x2*y2)*(1-d*x1*y1*x2*y2)-d*(x1*y2+x2*y1)*(y1*y2+x1*x2)*x3*y3)=(d*d*x1*x2*x2*x2*x2*y2*y2*y2*x3*y3*y3+d*d*x1*x2*x2*x2*y2*y2*y2*y2*x3*x3*y3 - d*d*y1*x2*x2*x2*x2*y2*y2*y2*x3*x3*y3 - d*d*y1*x2*x2*x2*y2*y2*y2*y2*x3*y3*y3+d*x1*x2*x2*x2*x2*y2*x3*y3*y3+d*x1*x2*x2*x2*y2*y2*y3*y3*y3 - d*x1*x2*x2*x2*y2*y2*y3 - d*x1*x2*x2*y2*y2*y2*x3*x3*x3 - d*x1*x2*x2*y2*y2*y2*x3 - d*x1*x2*y2*y2*y2*y2*x3*x3*y3 - d*y1*x2*x2*x2*x2*y2*x3*x3*y3 - d*y1*x2*x2*x2*y2*y2*x3*x3*x3 - d*y1*x2*x2*x2*y2*y2*x3+d*y1*x2*x2*y2*y2*y2*y3*y3*y3 - d*y1*x2*x2*y2*y2*y2*y3+d*y1*x2*y2*y2*y2*y2*x3*y3*y3)*(y1*y1-x1*x1-1-d*x1*x1*y1*y1)+(d*d*x1*x1*y1*x2*x2*y2*x3*x3*y3*y3*y3 - d*d*x1*x1*y1*x2*y2*y2*x3*x3*x3*y3*y3 - d*d*x1*y1*y1*x2*x2*y2*x3*x3*x3*y3*y3+d*d*x1*y1*y1*x2*y2*y2*x3*x3*y3*y3*y3 - d*x1*x1*x1*x2*x2*y2*x3*y3*y3 - d*x1*x1*x1*x2*y2*y2*x3*x3*y3+d*x1*x1*x1*x2*x3*x3*y3*y3*y3+d*x1*x1*x1*y2*x3*x3*x3*y3*y3+d*x1*x1*y1*x2*x2*y2*x3*x3*y3+d*x1*x1*y1*x2*y2*y2*x3*y3*y3+d*x1*x1*y1*x2*x3*x3*x3*y3*y3+d*x1*x1*y1*y2*x3*x3*y3*y3*y3+d*x1*y1*y1*x2*x2*y2*x3*y3*y3+d*x1*y1*y1*x2*y2*y2*x3*x3*y3 - d*x1*y1*y1*x2*x3*x3*y3*y3*y3 - d*x1*y1*y1*y2*x3*x3*x3*y3*y3 - d*x1*x2*x2*y2*x3*y3*y3 - d*x1*x2*y2*y2*x3*x3*y3+d*x1*x2*x3*x3*y3*y3*y3+d*x1*y2*x3*x3*x3*y3*y3 - d*y1*y1*y1*x2*x2*y2*x3*x3*y3 - d*y1*y1*y1*x2*y2*y2*x3*y3*y3 - d*y1*y1*y1*x2*x3*x3*x3*y3*y3 - d*y1*y1*y1*y2*x3*x3*y3*y3*y3+d*y1*x2*x2*y2*x3*x3*y3+d*y1*x2*y2*y2*x3*y3*y3+d*y1*x2*x3*x3*x3*y3*y3+d*y1*y2*x3*x3*y3*y3*y3+x1*x1*x1*x2*x3*x3*y3 - x1*x1*x1*x2*y3*y3*y3+x1*x1*x1*x2*y3+x1*x1*x1*y2*x3*x3*x3 - x1*x1*x1*y2*x3*y3*y3+x1*x1*x1*y2*x3+x1*x1*y1*x2*x3*x3*x3 - x1*x1*y1*x2*x3*y3*y3+x1*x1*y1*x2*x3+x1*x1*y1*y2*x3*x3*y3 - x1*x1*y1*y2*y3*y3*y3+x1*x1*y1*y2*y3 - x1*y1*y1*x2*x3*x3*y3+x1*y1*y1*x2*y3*y3*y3 - x1*y1*y1*x2*y3 - x1*y1*y1*y2*x3*x3*x3+x1*y1*y1*y2*x3*y3*y3 - x1*y1*y1*y2*x3+x1*x2*x3*x3*y3 - x1*x2*y3*y3*y3+x1*x2*y3+x1*y2*x3*x3*x3 - x1*y2*x3*y3*y3+x1*y2*x3 - y1*y1*y1*x2*x3*x3*x3+y1*y1*y1*x2*x3*y3*y3 - y1*y1*y1*x2*x3 - y1*y1*y1*y2*x3*x3*y3+y1*y1*y1*y2*y3*y3*y3 - y1*y1*y1*y2*y3+y1*x2*x3*x3*x3 - y1*x2*x3*y3*y3+y1*x2*x3+y1*y2*x3*x3*y3 - y1*y2*y3*y3*y3+y1*y2*y3)*(y2*y2-x2*x2-1-d*x2*x2*y2*y2)+(-d*x1*x1*y1*x2*x2*y2*y3+d*x1*x1*y1*x2*y2*y2*x3+d*x1*y1*y1*x2*x2*y2*x3 - d*x1*y1*y1*x2*y2*y2*y3 - x1*x1*x1*x2*x2*x2*y3 - x1*x1*x1*x2*x2*y2*x3+x1*x1*x1*x2*y2*y2*y3 - x1*x1*x1*x2*y3+x1*x1*x1*y2*y2*y2*x3 - x1*x1*x1*y2*x3 - x1*x1*y1*x2*x2*x2*x3 - x1*x1*y1*x2*x2*y2*y3+x1*x1*y1*x2*y2*y2*x3 - x1*x1*y1*x2*x3+x1*x1*y1*y2*y2*y2*y3 - x1*x1*y1*y2*y3+x1*y1*y1*x2*x2*x2*y3+x1*y1*y1*x2*x2*y2*x3 - x1*y1*y1*x2*y2*y2*y3+x1*y1*y1*x2*y3 - x1*y1*y1*y2*y2*y2*x3+x1*y1*y1*y2*x3 - x1*x2*x2*x2*y3 - x1*x2*x2*y2*x3+x1*x2*y2*y2*y3 - x1*x2*y3+x1*y2*y2*y2*x3 - x1*y2*x3+y1*y1*y1*x2*x2*x2*x3+y1*y1*y1*x2*x2*y2*y3 - y1*y1*y1*x2*y2*y2*x3+y1*y1*y1*x2*x3 - y1*y1*y1*y2*y2*y2*y3+y1*y1*y1*y2*y3 - y1*x2*x2*x2*x3 - y1*x2*x2*y2*y3+y1*x2*y2*y2*x3 - y1*x2*x3+y1*y2*y2*y2*y3 - y1*y2*y3)*(y3*y3-x3*x3-1-d*x3*x3*y3*y3):=by grind (splits:=0) -lia -linarith
theorem aRG (d x1 y1 x2 y2:Fin q):(y1*y2+x1*x2)*(y1*y2+x1*x2)*((1+d*x1*y1*x2*y2)*(1+d*x1*y1*x2*y2)) - (x1*y2+x2*y1)*(x1*y2+x2*y1)*((1-d*x1*y1*x2*y2)*(1-d*x1*y1*x2*y2)) - (1+d*x1*y1*x2*y2)*(1+d*x1*y1*x2*y2)*((1-d*x1*y1*x2*y2)*(1-d*x1*y1*x2*y2)) - d*((x1*y2+x2*y1)*(x1*y2+x2*y1))*((y1*y2+x1*x2)*(y1*y2+x1*x2))=(d*d*d*x1*x1*y1*y1*x2*x2*x2*x2*y2*y2*y2*y2 - d*d*x1*x1*x2*x2*x2*x2*y2*y2*y2*y2+d*d*y1*y1*x2*x2*x2*x2*y2*y2*y2*y2 - d*d*x2*x2*x2*x2*y2*y2*y2*y2 - d*x1*x1*x2*x2*x2*x2*y2*y2+d*x1*x1*x2*x2*y2*y2*y2*y2+d*y1*y1*x2*x2*x2*x2*y2*y2 - d*y1*y1*x2*x2*y2*y2*y2*y2 - 2*d*x2*x2*x2*x2*y2*y2*y2*y2 - 2*d*x2*x2*y2*y2 - 2*x2*x2*x2*x2*y2*y2+x2*x2*x2*x2+2*x2*x2*y2*y2*y2*y2 - 4*x2*x2*y2*y2+y2*y2*y2*y2)*(y1*y1-x1*x1-1-d*x1*x1*y1*y1)+(d*x1*x1*x1*x1*x2*x2*y2*y2+2*d*x1*x1*x2*x2*y2*y2+d*y1*y1*y1*y1*x2*x2*y2*y2 - 2*d*y1*y1*x2*x2*y2*y2+d*x2*x2*y2*y2+2*x1*x1*x2*x2*y2*y2 - x1*x1*x2*x2+x1*x1*y2*y2 - 2*y1*y1*x2*x2*y2*y2+y1*y1*x2*x2 - y1*y1*y2*y2+2*x2*x2*y2*y2 - x2*x2+y2*y2+1)*(y2*y2-x2*x2-1-d*x2*x2*y2*y2):=by grind (splits:=0) -lia -linarith
end
section
variable {q:Nat} [NeZero q]
def Cur.On2 (C:Cur q) (P:Fin q × Fin q):Prop:=On C.d P.1 P.2
def Cur.dp (C:Cur q) (P Q:Fin q × Fin q):Fin q:=1+C.d*P.1*P.2*Q.1*Q.2
def Cur.dm (C:Cur q) (P Q:Fin q × Fin q):Fin q:=1 - C.d*P.1*P.2*Q.1*Q.2
def Cur.ad (C:Cur q) (P Q:Fin q × Fin q):Fin q × Fin q:=((P.1*Q.2+Q.1*P.2)*C.inv (C.dp P Q),(P.2*Q.2+P.1*Q.1)*C.inv (C.dm P Q))
theorem Cur.dp_ne (C:Cur q) {P Q:Fin q × Fin q} (hP:C.On2 P) (hQ:C.On2 Q):C.dp P Q ≠ 0:=λ h=>
 C.full hP hQ (e:=-1) (by grind (splits:=0) -lia -linarith) (by unfold Cur.dp at h; grind (splits:=0) -lia -linarith)
theorem Cur.dm_ne (C:Cur q) {P Q:Fin q × Fin q} (hP:C.On2 P) (hQ:C.On2 Q):C.dm P Q ≠ 0:=λ h=>
 C.full hP hQ (e:=1) (by grind (splits:=0) -lia -linarith) (by unfold Cur.dm at h; grind (splits:=0) -lia -linarith)
theorem Cur.ad_x (C:Cur q) {P Q:Fin q × Fin q} (hP:C.On2 P) (hQ:C.On2 Q):(C.ad P Q).1*C.dp P Q=P.1*Q.2+Q.1*P.2:=by
 have h:=C.inv_mul _ (C.dp_ne hP hQ);show (P.1*Q.2+Q.1*P.2)*C.inv (C.dp P Q)*C.dp P Q=_;generalize C.dp P Q=D at *;generalize C.inv D=E at *;grind (splits:=0) -lia -linarith
theorem Cur.ad_y (C:Cur q) {P Q:Fin q × Fin q} (hP:C.On2 P) (hQ:C.On2 Q):(C.ad P Q).2*C.dm P Q=P.2*Q.2+P.1*Q.1:=by
 have h:=C.inv_mul _ (C.dm_ne hP hQ);show (P.2*Q.2+P.1*Q.1)*C.inv (C.dm P Q)*C.dm P Q=_;generalize C.dm P Q=D at *;generalize C.inv D=E at *;grind (splits:=0) -lia -linarith
theorem Cur.ad_eq (C:Cur q) {P Q R:Fin q × Fin q} (hP:C.On2 P) (hQ:C.On2 Q) (h1:R.1*C.dp P Q=P.1*Q.2+Q.1*P.2) (h2:R.2*C.dm P Q=P.2*Q.2+P.1*Q.1):C.ad P Q=R:=by
 have e1:(C.ad P Q).1=R.1:=C.can (C.dp_ne hP hQ) ((C.ad_x hP hQ).trans h1.symm);have e2:(C.ad P Q).2=R.2:=C.can (C.dm_ne hP hQ) ((C.ad_y hP hQ).trans h2.symm);exact BZ e1 e2
theorem tY {d x y:Fin q} (h:On d x y):y*y-x*x-1-d*x*x*y*y=0:=by
 unfold On at h;grind (splits:=0) -lia -linarith
theorem aB6 {d X Y p m:Fin q} (e:Y*m*(Y*m)*(p*p) - X*p*(X*p)*(m*m) - p*p*(m*m) - d*(X*p*(X*p))*(Y*m*(Y*m))=0+0):(Y*Y - X*X)*(p*p*(m*m))=(1+d*X*X*Y*Y)*(p*p*(m*m)):=by
 grind (splits:=0) -lia -linarith
theorem aB7 {d x1 y1 x2 y2 X Y p m:Fin q} (C:Cur q) (o1:On d x1 y1) (o2:On d x2 y2) (hp:p=1+d*x1*y1*x2*y2) (hm:m=1 - d*x1*y1*x2*y2) (p0:p ≠ 0) (m0:m ≠ 0)
  (hX:X*p=x1*y2+x2*y1) (hY:Y*m=y1*y2+x1*x2):On d X Y:=by
 have e:=aRG d x1 y1 x2 y2;rw [tY o1,tY o2,jY,jY,<-hX,<-hY,<-hp,<-hm] at e;exact C.can (C.mul_ne (C.mul_ne p0 p0) (C.mul_ne m0 m0)) (aB6 e)
theorem Cur.ad_on (C:Cur q) {P Q:Fin q × Fin q} (hP:C.On2 P) (hQ:C.On2 Q):C.On2 (C.ad P Q) :=
 aB7 C hP hQ rfl rfl (C.dp_ne hP hQ) (C.dm_ne hP hQ) (C.ad_x hP hQ) (C.ad_y hP hQ)
theorem aIW {d x1 y1 x3 y3 xs ys xr yr p m p' m' U V:Fin q} (e:((xs*p)*m*y3+x3*((ys*m)*p))*(p'*m'+d*x1*y1*(xr*p')*(yr*m')) - (x1*((yr*m')*p')+(xr*p')*m'*y1)*(p*m+d*(xs*p)*(ys*m)*x3*y3)=0+0+0)
  (hU:U*(1+d*xs*ys*x3*y3)=xs*y3+x3*ys) (hV:V*(1+d*x1*y1*xr*yr)=x1*yr+xr*y1) :
  U*(p*m*(1+d*xs*ys*x3*y3)*(p'*m'*(1+d*x1*y1*xr*yr)))=V*(p*m*(1+d*xs*ys*x3*y3)*(p'*m'*(1+d*x1*y1*xr*yr))):=by
 have e1:U*(p*m*(1+d*xs*ys*x3*y3)*(p'*m'*(1+d*x1*y1*xr*yr)))=(U*(1+d*xs*ys*x3*y3))*(p*m*(p'*m'*(1+d*x1*y1*xr*yr))):=by clear e hU hV; grind (splits:=0) -lia -linarith
 have e2:V*(p*m*(1+d*xs*ys*x3*y3)*(p'*m'*(1+d*x1*y1*xr*yr)))=(V*(1+d*x1*y1*xr*yr))*(p*m*(1+d*xs*ys*x3*y3)*(p'*m')):=by clear e hU hV; grind (splits:=0) -lia -linarith
 rw [e1,e2,hU,hV];clear e1 e2 hU hV;grind (splits:=0) -lia -linarith
theorem aIX {d x1 y1 x3 y3 xs ys xr yr p m p' m' U V:Fin q} (e:((ys*m)*p*y3+(xs*p)*m*x3)*(p'*m' - d*x1*y1*(xr*p')*(yr*m')) - (y1*((yr*m')*p')+x1*((xr*p')*m'))*(p*m - d*(xs*p)*(ys*m)*x3*y3)=0+0+0)
  (hU:U*(1 - d*xs*ys*x3*y3)=ys*y3+xs*x3) (hV:V*(1 - d*x1*y1*xr*yr)=y1*yr+x1*xr) :
  U*(p*m*(1 - d*xs*ys*x3*y3)*(p'*m'*(1 - d*x1*y1*xr*yr)))=V*(p*m*(1 - d*xs*ys*x3*y3)*(p'*m'*(1 - d*x1*y1*xr*yr))):=by
 have e1:U*(p*m*(1 - d*xs*ys*x3*y3)*(p'*m'*(1 - d*x1*y1*xr*yr)))=(U*(1 - d*xs*ys*x3*y3))*(p*m*(p'*m'*(1 - d*x1*y1*xr*yr))):=by clear e hU hV; grind (splits:=0) -lia -linarith
 have e2:V*(p*m*(1 - d*xs*ys*x3*y3)*(p'*m'*(1 - d*x1*y1*xr*yr)))=(V*(1 - d*x1*y1*xr*yr))*(p*m*(1 - d*xs*ys*x3*y3)*(p'*m')):=by clear e hU hV; grind (splits:=0) -lia -linarith
 rw [e1,e2,hU,hV];clear e1 e2 hU hV;grind (splits:=0) -lia -linarith
theorem aIY {d x1 y1 x2 y2 x3 y3 xs ys xr yr p m p' m' U V g k:Fin q} (C:Cur q) (o1:On d x1 y1) (o2:On d x2 y2) (o3:On d x3 y3)
  (hp:p=1+d*x1*y1*x2*y2) (hm:m=1 - d*x1*y1*x2*y2) (hp':p'=1+d*x2*y2*x3*y3) (hm':m'=1 - d*x2*y2*x3*y3)
  (p0:p ≠ 0) (m0:m ≠ 0) (p0':p' ≠ 0) (m0':m' ≠ 0) (hg:g=1+d*xs*ys*x3*y3) (hk:k=1+d*x1*y1*xr*yr) (g0:g ≠ 0) (k0:k ≠ 0)
  (hxs:xs*p=x1*y2+x2*y1) (hys:ys*m=y1*y2+x1*x2) (hxr:xr*p'=x2*y3+x3*y2) (hyr:yr*m'=y2*y3+x2*x3)
  (hU:U*g=xs*y3+x3*ys) (hV:V*k=x1*yr+xr*y1):U=V:=by
 have e:=ZB d x1 y1 x2 y2 x3 y3;rw [tY o1,tY o2,tY o3,jY,jY,jY,<-hxs,<-hys,<-hxr,<-hyr,<-hp,<-hm,<-hp',<-hm'] at e;refine C.can (C.mul_ne (C.mul_ne (C.mul_ne p0 m0) g0) (C.mul_ne (C.mul_ne p0' m0') k0)) ?_;clear hp hm hp' hm' p0 m0 p0' m0' g0 k0 hxs hys hxr hyr o1 o2 o3 C;subst hg hk;exact aIW e hU hV
theorem aIZ {d x1 y1 x2 y2 x3 y3 xs ys xr yr p m p' m' U V g k:Fin q} (C:Cur q) (o1:On d x1 y1) (o2:On d x2 y2) (o3:On d x3 y3)
  (hp:p=1+d*x1*y1*x2*y2) (hm:m=1 - d*x1*y1*x2*y2) (hp':p'=1+d*x2*y2*x3*y3) (hm':m'=1 - d*x2*y2*x3*y3)
  (p0:p ≠ 0) (m0:m ≠ 0) (p0':p' ≠ 0) (m0':m' ≠ 0) (hg:g=1 - d*xs*ys*x3*y3) (hk:k=1 - d*x1*y1*xr*yr) (g0:g ≠ 0) (k0:k ≠ 0)
  (hxs:xs*p=x1*y2+x2*y1) (hys:ys*m=y1*y2+x1*x2) (hxr:xr*p'=x2*y3+x3*y2) (hyr:yr*m'=y2*y3+x2*x3)
  (hU:U*g=ys*y3+xs*x3) (hV:V*k=y1*yr+x1*xr):U=V:=by
 have e:=ZC d x1 y1 x2 y2 x3 y3;rw [tY o1,tY o2,tY o3,jY,jY,jY,<-hxs,<-hys,<-hxr,<-hyr,<-hp,<-hm,<-hp',<-hm'] at e;refine C.can (C.mul_ne (C.mul_ne (C.mul_ne p0 m0) g0) (C.mul_ne (C.mul_ne p0' m0') k0)) ?_;clear hp hm hp' hm' p0 m0 p0' m0' g0 k0 hxs hys hxr hyr o1 o2 o3 C;subst hg hk;exact aIX e hU hV
theorem Cur.ad_assoc (C:Cur q) {P Q R:Fin q × Fin q} (hP:C.On2 P) (hQ:C.On2 Q) (hR:C.On2 R):C.ad (C.ad P Q) R=C.ad P (C.ad Q R):=by
 have hS:=C.ad_on hP hQ;have hT:=C.ad_on hQ hR;refine BZ ?_ ?_
 ·exact aIY C hP hQ hR rfl rfl rfl rfl (C.dp_ne hP hQ) (C.dm_ne hP hQ) (C.dp_ne hQ hR) (C.dm_ne hQ hR) rfl rfl (C.dp_ne hS hR) (C.dp_ne hP hT) (C.ad_x hP hQ) (C.ad_y hP hQ) (C.ad_x hQ hR) (C.ad_y hQ hR) (C.ad_x hS hR) (C.ad_x hP hT)
 ·exact aIZ C hP hQ hR rfl rfl rfl rfl (C.dp_ne hP hQ) (C.dm_ne hP hQ) (C.dp_ne hQ hR) (C.dm_ne hQ hR) rfl rfl (C.dm_ne hS hR) (C.dm_ne hP hT) (C.ad_x hP hQ) (C.ad_y hP hQ) (C.ad_x hQ hR) (C.ad_y hQ hR) (C.ad_y hS hR) (C.ad_y hP hT)
theorem Cur.ad_comm (C:Cur q) (P Q:Fin q × Fin q):C.ad P Q=C.ad Q P:=by
 have h1:C.dp P Q=C.dp Q P:=by unfold Cur.dp; grind (splits:=0) -lia -linarith
 have h2:C.dm P Q=C.dm Q P:=by unfold Cur.dm; grind (splits:=0) -lia -linarith
 unfold Cur.ad;rw [h1,h2];refine BZ ?_ ?_
 ·show (P.1*Q.2+Q.1*P.2)*_=(Q.1*P.2+P.1*Q.2)*_;rw [show P.1*Q.2+Q.1*P.2=Q.1*P.2+P.1*Q.2 by grind (splits:=0) -lia -linarith]
 ·show (P.2*Q.2+P.1*Q.1)*_=(Q.2*P.2+Q.1*P.1)*_;rw [PD P.2,PD P.1]
def Vg (q:Nat) [NeZero q]:Fin q × Fin q:=(0,1)
def aRH (P:Fin q × Fin q):Fin q × Fin q:=(-P.1,P.2)
theorem Cur.zero_on (C:Cur q):C.On2 (Vg q):=by
 show (1:Fin q)*1 - 0*0=1+C.d*0*0*1*1;grind (splits:=0) -lia -linarith
theorem Cur.neg_on (C:Cur q) {P:Fin q × Fin q} (hP:C.On2 P):C.On2 (aRH P):=by
 obtain ⟨x,y⟩:=P;have h:y*y - x*x=1+C.d*x*x*y*y:=hP;show y*y - (-x)*(-x)=1+C.d*(-x)*(-x)*y*y;grind (splits:=0) -lia -linarith
theorem Cur.ad_zero (C:Cur q) {P:Fin q × Fin q} (hP:C.On2 P):C.ad P (Vg q)=P:=by
 refine C.ad_eq hP C.zero_on ?_ ?_
 ·show P.1*(1+C.d*P.1*P.2*0*1)=P.1*1+0*P.2;grind (splits:=0) -lia -linarith
 ·show P.2*(1 - C.d*P.1*P.2*0*1)=P.2*1+P.1*0;grind (splits:=0) -lia -linarith
theorem Cur.ad_neg (C:Cur q) {P:Fin q × Fin q} (hP:C.On2 P):C.ad P (aRH P)=Vg q:=by
 refine C.ad_eq hP (C.neg_on hP) ?_ ?_
 ·show 0*(1+C.d*P.1*P.2*(-P.1)*P.2)=P.1*P.2+(-P.1)*P.2;grind (splits:=0) -lia -linarith
 ·have h:P.2*P.2 - P.1*P.1=1+C.d*P.1*P.1*P.2*P.2:=hP;show 1*(1 - C.d*P.1*P.2*(-P.1)*P.2)=P.2*P.2+P.1*(-P.1);grind (splits:=0) -lia -linarith
def Cur.G (C:Cur q):Type:={P:Fin q × Fin q // C.On2 P}
def Cur.add (C:Cur q) (a b:C.G):C.G:=⟨C.ad a.1 b.1,C.ad_on a.2 b.2⟩
def Cur.zero (C:Cur q):C.G:=⟨Vg q,C.zero_on⟩
def Cur.neg (C:Cur q) (a:C.G):C.G:=⟨aRH a.1,C.neg_on a.2⟩
theorem Cur.add_comm (C:Cur q) (a b:C.G):C.add a b=C.add b a:=yW (C.ad_comm _ _)
theorem Cur.add_assoc (C:Cur q) (a b c:C.G):C.add (C.add a b) c=C.add a (C.add b c):=yW (C.ad_assoc a.2 b.2 c.2)
theorem Cur.add_zero (C:Cur q) (a:C.G):C.add a C.zero=a:=yW (C.ad_zero a.2)
theorem Cur.zero_add (C:Cur q) (a:C.G):C.add C.zero a=a:=(C.add_comm _ _).trans (C.add_zero a)
theorem Cur.add_neg (C:Cur q) (a:C.G):C.add a (C.neg a)=C.zero:=yW (C.ad_neg a.2)
theorem Cur.neg_add (C:Cur q) (a:C.G):C.add (C.neg a) a=C.zero:=(C.add_comm _ _).trans (C.add_neg a)
theorem Cur.add_can (C:Cur q) {a b c:C.G} (h:C.add a c=C.add b c):a=b:=by
 have:=dQ (λ x=>C.add x (C.neg c)) h;simp only [C.add_assoc,C.add_neg,C.add_zero] at this;exact this
theorem Cur.neg_eq (C:Cur q) {a b:C.G} (h:C.add a b=C.zero):a=C.neg b:=C.add_can (h.trans (C.neg_add b).symm)
theorem Cur.neg_neg (C:Cur q) (a:C.G):C.neg (C.neg a)=a:=(C.neg_eq (C.add_neg a)).symm
end
def QP:Nat:=aJ
instance : NeZero QP := ⟨by unfold QP; decide⟩
theorem aRI:0 < QP:=by unfold QP; decide
def fn (n:Nat):Fin QP:=⟨n%QP,bK _ aRI⟩
theorem tZ {a b:Nat}:fn a=fn b ↔ a%aJ=b%aJ:=by
 constructor
 ·intro h; exact dQ Fin.val h
 ·intro h; exact Fin.ext h
theorem qL (a b:Nat):fn (a+b)=fn a+fn b:=by
 apply Fin.ext;rw [Fin.val_add];exact Ed _ _ _
theorem bQ (a b:Nat):fn (a*b)=fn a*fn b:=by
 apply Fin.ext;rw [Fin.val_mul];exact pU _ _ _
theorem mE (a:Fin QP):fn a.val=a:=Fin.ext (aV a.isLt)
theorem bR (n:Nat):fn (n%aJ)=fn n:=tZ.2 (sL _ _)
theorem t7:fn 0=0:=Fin.ext (BW _)
theorem oU:fn 1=1:=rfl
theorem aRJ:fn 2=2:=rfl
theorem nD {a:Nat}:fn a=0 ↔ a%aJ=0:=by rw [<-t7,tZ,BW]
theorem aRK {a b c:Nat} (h:(a+b)%aJ=c%aJ):fn a=fn c - fn b:=by
 have:=tZ.2 h;rw [qL] at this;grind (splits:=0) -lia -linarith
theorem aRL (n:Nat):(fn n).val=n%aJ:=rfl
theorem Vh (a:Fin QP):a.val < aJ:=a.isLt
theorem aXA (a b:Fin QP) (h:a*b=0):a=0 ∨ b=0:=by
 rw [<-mE a,<-mE b,<-bQ,nD] at h;rcases aDO h with h | h
 ·exact .inl (by rw [<-mE a]; exact nD.2 h)
 ·exact .inr (by rw [<-mE b]; exact nD.2 h)
def P5 (a:Fin QP):Fin QP:=fn (a.val ^ lR 235 255)
theorem aB8 {n:Nat} (h:aJ ∣ n):fn n=0:=nD.2 (uT h)
theorem aOf (a:Fin QP) (h:a ≠ 0):a*P5 a=1:=by
 have h1:¬ aJ ∣ a.val:=λ hd=>h (by rw [<-mE a]; exact aB8 hd);have:=GG prP h1 Qd;have e:a*P5 a=fn (a.val*a.val ^ lR 235 255):=by rw [bQ,mE]; rfl
 rw [e,<-oU,tZ];exact this
def iNQ:Nat:=19681161376707505956807079304988542015446066515923890162744021073123829784752
theorem aZX:fn iNQ*fn iNQ=-1:=by
 have:fn (iNQ*iNQ+1)=0:=nD.2 (by decide +kernel);rw [qL,bQ,oU] at this;grind (splits:=0) -lia -linarith
abbrev ZD:Nat:=37095705934669439343138083508754565189542113879843219016388785533085940283555
abbrev hQN:Nat:=28948022309329048855892746252171976963317496166410141009864396001978282409974
theorem aRM:ZD ^ hQN%aJ=aJ - 1:=by
 rw [<-Qb ZD aJ 256 hQN (by decide +kernel)];decide +kernel
theorem aXB {p h d a b:Nat} (hp:Pr p) (h3:2 < p) (hh:h+h=p - 1) (hd:d ^ h%p=p - 1) (e:a*a%p=d*(b*b)%p):b%p=0:=by
 by_cases hb:p ∣ b
 ·exact uT hb
 exfalso;have f1:=pJ e h;have eb:=Iq hp hb;have e2:(d*(b*b)) ^ h%p=p - 1:=by
  rw [Nat.mul_pow,<-Nat.pow_two,<-jK,Nat.two_mul,hh,pU,hd,eb,iY,aV (by omega)]
 rw [e2,<-Nat.pow_two,<-jK,Nat.two_mul,hh] at f1;by_cases ha:p ∣ a
 ·obtain ⟨k,rfl⟩:=ha;have:(p*k) ^ (p - 1)%p=0:=by
   rw [BV,Nat.mul_mod_right,Nat.zero_pow (by omega),BW]
  omega
 ·rw [Iq hp ha] at f1;omega
theorem aXC (a b:Fin QP) (h:a*a=fn ZD*(b*b)):b=0:=by
 rw [<-mE a,<-mE b,<-bQ,<-bQ,<-bQ,tZ] at h;rw [<-mE b];exact nD.2 (aXB (h:=hQN) prP (by decide) (by decide) aRM h)
def CP:Cur QP where
 d:=fn ZD
 i:=fn iNQ
 inv:=P5
 noz:=aXA
 inv_mul:=aOf
 ii:=aZX
 nsq:=aXC
 h1:=λ h=>by rw [<-oU,nD] at h; revert h; decide
 h2:=λ h=>by rw [<-aRJ,nD] at h; revert h; decide
end Go.Eng
