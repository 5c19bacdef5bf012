/- Texts of this claim, one behind the other: Cv0, Cv1, Cv2, Cv4. -/
import Derived.Test.YtkmlepkmhpigeaaZF3
import Derived.Test.YtkmlepkmhpigeaaZF9
/- Twisted Edwards curves with a = -1 over a prime field: the sum of points is total, and a group. -/
namespace Go.Eng
set_option linter.unusedVariables false
section
variable {q:Nat} [NeZero q]
def On (d x y:Fin q):Prop:=y * y - x * x = 1 + d * x * x * y * y
structure Cur (q:Nat) [NeZero q] where
  d:Fin q
  i:Fin q
  inv:Fin q→Fin q
  noz:∀ a b:Fin q,a * b = 0→a = 0 ∨ b = 0
  inv_mul:∀ a:Fin q,a ≠ 0→a * inv a = 1
  ii:i * i = -1
  nsq:∀ a b:Fin q,a * a = d * (b * b)→b = 0
  h1:(1:Fin q) ≠ 0
  h2:(2:Fin q) ≠ 0
theorem Cur.can (C:Cur q) {a b c:Fin q} (hc:c ≠ 0) (h:a * c = b * c):a = b:=by
  have:(a - b) * c = 0:=by grind (splits:=0) -lia -linarith
  rcases C.noz _ _ this with h | h
  · grind (splits:=0) -lia -linarith
  · exact absurd h hc
theorem Cur.mul_ne (C:Cur q) {a b:Fin q} (ha:a ≠ 0) (hb:b ≠ 0):a * b ≠ 0:=fun h => (C.noz _ _ h).elim ha hb
theorem Cur.i_ne (C:Cur q):C.i ≠ 0:=fun h => by
  have:=C.ii
  rw [h] at this
  have h2:(1:Fin q) = 0:=by grind (splits:=0) -lia -linarith
  exact C.h1 h2
theorem Cur.full (C:Cur q) {x1 y1 x2 y2 e:Fin q} (o1:On C.d x1 y1) (o2:On C.d x2 y2) (he:e * e = 1):C.d * x1 * y1 * x2 * y2 ≠ e:=by
  intro h
  have e0:e ≠ 0:=fun h0 => C.h1 (by rw [← he,h0]; grind (splits:=0) -lia -linarith)
  have hi:=C.ii
  have o1':y1 * y1 - x1 * x1 = 1 + C.d * x1 * x1 * y1 * y1:=o1
  have o2':y2 * y2 - x2 * x2 = 1 + C.d * x2 * x2 * y2 * y2:=o2
  have hx1:x1 ≠ 0:=fun h0 => e0 (by rw [← h,h0]; grind (splits:=0) -lia -linarith)
  have hy1:y1 ≠ 0:=fun h0 => e0 (by rw [← h,h0]; grind (splits:=0) -lia -linarith)
  have hy2:y2 ≠ 0:=fun h0 => e0 (by rw [← h,h0]; grind (splits:=0) -lia -linarith)
  have k1:(C.i * x1 + e * y1) * (C.i * x1 + e * y1) = C.d * ((x1 * y1 * (C.i * x2 + y2)) * (x1 * y1 * (C.i * x2 + y2))):=by
    clear hx1 hy1 hy2 e0 o1 o2
    grind (splits:=0) -lia -linarith
  have k2:(C.i * x1 - e * y1) * (C.i * x1 - e * y1) = C.d * ((x1 * y1 * (C.i * x2 - y2)) * (x1 * y1 * (C.i * x2 - y2))):=by
    clear hx1 hy1 hy2 e0 o1 o2
    grind (splits:=0) -lia -linarith
  have hxy:=C.mul_ne hx1 hy1
  have z1:C.i * x2 + y2 = 0:=(C.noz _ _ (C.nsq _ _ k1)).resolve_left hxy
  have z2:C.i * x2 - y2 = 0:=(C.noz _ _ (C.nsq _ _ k2)).resolve_left hxy
  have z3:2 * y2 = 0:=by grind (splits:=0) -lia -linarith
  exact (C.noz _ _ z3).elim C.h2 hy2
theorem assoc_x_F (d x1 y1 x2 y2 x3 y3:Fin q):((x1*y2+x2*y1)*(1-d*x1*y1*x2*y2)*y3+x3*((y1*y2+x1*x2)*(1+d*x1*y1*x2*y2)))*((1+d*x2*y2*x3*y3)*(1-d*x2*y2*x3*y3)+d*x1*y1*(x2*y3+x3*y2)*(y2*y3+x2*x3)) - (x1*((y2*y3+x2*x3)*(1+d*x2*y2*x3*y3))+(x2*y3+x3*y2)*(1-d*x2*y2*x3*y3)*y1)*((1+d*x1*y1*x2*y2)*(1-d*x1*y1*x2*y2)+d*(x1*y2+x2*y1)*(y1*y2+x1*x2)*x3*y3) = (-d*d*x1*x2*x2*x2*x2*y2*y2*y2*x3*x3*y3 - d*d*x1*x2*x2*x2*y2*y2*y2*y2*x3*y3*y3 + d*d*y1*x2*x2*x2*x2*y2*y2*y2*x3*y3*y3 + d*d*y1*x2*x2*x2*y2*y2*y2*y2*x3*x3*y3 - d*x1*x2*x2*x2*x2*y2*x3*x3*y3 - d*x1*x2*x2*x2*y2*y2*x3*x3*x3 - d*x1*x2*x2*x2*y2*y2*x3 + d*x1*x2*x2*y2*y2*y2*y3*y3*y3 - d*x1*x2*x2*y2*y2*y2*y3 + d*x1*x2*y2*y2*y2*y2*x3*y3*y3 + d*y1*x2*x2*x2*x2*y2*x3*y3*y3 + d*y1*x2*x2*x2*y2*y2*y3*y3*y3 - d*y1*x2*x2*x2*y2*y2*y3 - d*y1*x2*x2*y2*y2*y2*x3*x3*x3 - d*y1*x2*x2*y2*y2*y2*x3 - d*y1*x2*y2*y2*y2*y2*x3*x3*y3)*(y1*y1-x1*x1-1-d*x1*x1*y1*y1) + (d*d*x1*x1*y1*x2*x2*y2*x3*x3*x3*y3*y3 - d*d*x1*x1*y1*x2*y2*y2*x3*x3*y3*y3*y3 - d*d*x1*y1*y1*x2*x2*y2*x3*x3*y3*y3*y3 + d*d*x1*y1*y1*x2*y2*y2*x3*x3*x3*y3*y3 + d*x1*x1*x1*x2*x2*y2*x3*x3*y3 + d*x1*x1*x1*x2*y2*y2*x3*y3*y3 + d*x1*x1*x1*x2*x3*x3*x3*y3*y3 + d*x1*x1*x1*y2*x3*x3*y3*y3*y3 - d*x1*x1*y1*x2*x2*y2*x3*y3*y3 - d*x1*x1*y1*x2*y2*y2*x3*x3*y3 + d*x1*x1*y1*x2*x3*x3*y3*y3*y3 + d*x1*x1*y1*y2*x3*x3*x3*y3*y3 - d*x1*y1*y1*x2*x2*y2*x3*x3*y3 - d*x1*y1*y1*x2*y2*y2*x3*y3*y3 - d*x1*y1*y1*x2*x3*x3*x3*y3*y3 - d*x1*y1*y1*y2*x3*x3*y3*y3*y3 + d*x1*x2*x2*y2*x3*x3*y3 + d*x1*x2*y2*y2*x3*y3*y3 + d*x1*x2*x3*x3*x3*y3*y3 + d*x1*y2*x3*x3*y3*y3*y3 + d*y1*y1*y1*x2*x2*y2*x3*y3*y3 + d*y1*y1*y1*x2*y2*y2*x3*x3*y3 - d*y1*y1*y1*x2*x3*x3*y3*y3*y3 - d*y1*y1*y1*y2*x3*x3*x3*y3*y3 - d*y1*x2*x2*y2*x3*y3*y3 - d*y1*x2*y2*y2*x3*x3*y3 + d*y1*x2*x3*x3*y3*y3*y3 + d*y1*y2*x3*x3*x3*y3*y3 + x1*x1*x1*x2*x3*x3*x3 - x1*x1*x1*x2*x3*y3*y3 + x1*x1*x1*x2*x3 + x1*x1*x1*y2*x3*x3*y3 - x1*x1*x1*y2*y3*y3*y3 + x1*x1*x1*y2*y3 + x1*x1*y1*x2*x3*x3*y3 - x1*x1*y1*x2*y3*y3*y3 + x1*x1*y1*x2*y3 + x1*x1*y1*y2*x3*x3*x3 - x1*x1*y1*y2*x3*y3*y3 + x1*x1*y1*y2*x3 - x1*y1*y1*x2*x3*x3*x3 + x1*y1*y1*x2*x3*y3*y3 - x1*y1*y1*x2*x3 - x1*y1*y1*y2*x3*x3*y3 + x1*y1*y1*y2*y3*y3*y3 - x1*y1*y1*y2*y3 + x1*x2*x3*x3*x3 - x1*x2*x3*y3*y3 + x1*x2*x3 + x1*y2*x3*x3*y3 - x1*y2*y3*y3*y3 + x1*y2*y3 - y1*y1*y1*x2*x3*x3*y3 + y1*y1*y1*x2*y3*y3*y3 - y1*y1*y1*x2*y3 - y1*y1*y1*y2*x3*x3*x3 + y1*y1*y1*y2*x3*y3*y3 - y1*y1*y1*y2*x3 + y1*x2*x3*x3*y3 - y1*x2*y3*y3*y3 + y1*x2*y3 + y1*y2*x3*x3*x3 - y1*y2*x3*y3*y3 + y1*y2*x3)*(y2*y2-x2*x2-1-d*x2*x2*y2*y2) + (-d*x1*x1*y1*x2*x2*y2*x3 + d*x1*x1*y1*x2*y2*y2*y3 + d*x1*y1*y1*x2*x2*y2*y3 - d*x1*y1*y1*x2*y2*y2*x3 - x1*x1*x1*x2*x2*x2*x3 - x1*x1*x1*x2*x2*y2*y3 + x1*x1*x1*x2*y2*y2*x3 - x1*x1*x1*x2*x3 + x1*x1*x1*y2*y2*y2*y3 - x1*x1*x1*y2*y3 - x1*x1*y1*x2*x2*x2*y3 - x1*x1*y1*x2*x2*y2*x3 + x1*x1*y1*x2*y2*y2*y3 - x1*x1*y1*x2*y3 + x1*x1*y1*y2*y2*y2*x3 - x1*x1*y1*y2*x3 + x1*y1*y1*x2*x2*x2*x3 + x1*y1*y1*x2*x2*y2*y3 - x1*y1*y1*x2*y2*y2*x3 + x1*y1*y1*x2*x3 - x1*y1*y1*y2*y2*y2*y3 + x1*y1*y1*y2*y3 - x1*x2*x2*x2*x3 - x1*x2*x2*y2*y3 + x1*x2*y2*y2*x3 - x1*x2*x3 + x1*y2*y2*y2*y3 - x1*y2*y3 + y1*y1*y1*x2*x2*x2*y3 + y1*y1*y1*x2*x2*y2*x3 - y1*y1*y1*x2*y2*y2*y3 + y1*y1*y1*x2*y3 - y1*y1*y1*y2*y2*y2*x3 + y1*y1*y1*y2*x3 - y1*x2*x2*x2*y3 - y1*x2*x2*y2*x3 + y1*x2*y2*y2*y3 - y1*x2*y3 + y1*y2*y2*y2*x3 - y1*y2*x3)*(y3*y3-x3*x3-1-d*x3*x3*y3*y3):=by grind (splits:=0) -lia -linarith
theorem assoc_y_F (d x1 y1 x2 y2 x3 y3:Fin q):((y1*y2+x1*x2)*(1+d*x1*y1*x2*y2)*y3+(x1*y2+x2*y1)*(1-d*x1*y1*x2*y2)*x3)*((1+d*x2*y2*x3*y3)*(1-d*x2*y2*x3*y3)-d*x1*y1*(x2*y3+x3*y2)*(y2*y3+x2*x3)) - (y1*((y2*y3+x2*x3)*(1+d*x2*y2*x3*y3))+x1*((x2*y3+x3*y2)*(1-d*x2*y2*x3*y3)))*((1+d*x1*y1*x2*y2)*(1-d*x1*y1*x2*y2)-d*(x1*y2+x2*y1)*(y1*y2+x1*x2)*x3*y3) = (d*d*x1*x2*x2*x2*x2*y2*y2*y2*x3*y3*y3 + d*d*x1*x2*x2*x2*y2*y2*y2*y2*x3*x3*y3 - d*d*y1*x2*x2*x2*x2*y2*y2*y2*x3*x3*y3 - d*d*y1*x2*x2*x2*y2*y2*y2*y2*x3*y3*y3 + d*x1*x2*x2*x2*x2*y2*x3*y3*y3 + d*x1*x2*x2*x2*y2*y2*y3*y3*y3 - d*x1*x2*x2*x2*y2*y2*y3 - d*x1*x2*x2*y2*y2*y2*x3*x3*x3 - d*x1*x2*x2*y2*y2*y2*x3 - d*x1*x2*y2*y2*y2*y2*x3*x3*y3 - d*y1*x2*x2*x2*x2*y2*x3*x3*y3 - d*y1*x2*x2*x2*y2*y2*x3*x3*x3 - d*y1*x2*x2*x2*y2*y2*x3 + d*y1*x2*x2*y2*y2*y2*y3*y3*y3 - d*y1*x2*x2*y2*y2*y2*y3 + d*y1*x2*y2*y2*y2*y2*x3*y3*y3)*(y1*y1-x1*x1-1-d*x1*x1*y1*y1) + (d*d*x1*x1*y1*x2*x2*y2*x3*x3*y3*y3*y3 - d*d*x1*x1*y1*x2*y2*y2*x3*x3*x3*y3*y3 - d*d*x1*y1*y1*x2*x2*y2*x3*x3*x3*y3*y3 + d*d*x1*y1*y1*x2*y2*y2*x3*x3*y3*y3*y3 - d*x1*x1*x1*x2*x2*y2*x3*y3*y3 - d*x1*x1*x1*x2*y2*y2*x3*x3*y3 + d*x1*x1*x1*x2*x3*x3*y3*y3*y3 + d*x1*x1*x1*y2*x3*x3*x3*y3*y3 + d*x1*x1*y1*x2*x2*y2*x3*x3*y3 + d*x1*x1*y1*x2*y2*y2*x3*y3*y3 + d*x1*x1*y1*x2*x3*x3*x3*y3*y3 + d*x1*x1*y1*y2*x3*x3*y3*y3*y3 + d*x1*y1*y1*x2*x2*y2*x3*y3*y3 + d*x1*y1*y1*x2*y2*y2*x3*x3*y3 - d*x1*y1*y1*x2*x3*x3*y3*y3*y3 - d*x1*y1*y1*y2*x3*x3*x3*y3*y3 - d*x1*x2*x2*y2*x3*y3*y3 - d*x1*x2*y2*y2*x3*x3*y3 + d*x1*x2*x3*x3*y3*y3*y3 + d*x1*y2*x3*x3*x3*y3*y3 - d*y1*y1*y1*x2*x2*y2*x3*x3*y3 - d*y1*y1*y1*x2*y2*y2*x3*y3*y3 - d*y1*y1*y1*x2*x3*x3*x3*y3*y3 - d*y1*y1*y1*y2*x3*x3*y3*y3*y3 + d*y1*x2*x2*y2*x3*x3*y3 + d*y1*x2*y2*y2*x3*y3*y3 + d*y1*x2*x3*x3*x3*y3*y3 + d*y1*y2*x3*x3*y3*y3*y3 + x1*x1*x1*x2*x3*x3*y3 - x1*x1*x1*x2*y3*y3*y3 + x1*x1*x1*x2*y3 + x1*x1*x1*y2*x3*x3*x3 - x1*x1*x1*y2*x3*y3*y3 + x1*x1*x1*y2*x3 + x1*x1*y1*x2*x3*x3*x3 - x1*x1*y1*x2*x3*y3*y3 + x1*x1*y1*x2*x3 + x1*x1*y1*y2*x3*x3*y3 - x1*x1*y1*y2*y3*y3*y3 + x1*x1*y1*y2*y3 - x1*y1*y1*x2*x3*x3*y3 + x1*y1*y1*x2*y3*y3*y3 - x1*y1*y1*x2*y3 - x1*y1*y1*y2*x3*x3*x3 + x1*y1*y1*y2*x3*y3*y3 - x1*y1*y1*y2*x3 + x1*x2*x3*x3*y3 - x1*x2*y3*y3*y3 + x1*x2*y3 + x1*y2*x3*x3*x3 - x1*y2*x3*y3*y3 + x1*y2*x3 - y1*y1*y1*x2*x3*x3*x3 + y1*y1*y1*x2*x3*y3*y3 - y1*y1*y1*x2*x3 - y1*y1*y1*y2*x3*x3*y3 + y1*y1*y1*y2*y3*y3*y3 - y1*y1*y1*y2*y3 + y1*x2*x3*x3*x3 - y1*x2*x3*y3*y3 + y1*x2*x3 + y1*y2*x3*x3*y3 - y1*y2*y3*y3*y3 + y1*y2*y3)*(y2*y2-x2*x2-1-d*x2*x2*y2*y2) + (-d*x1*x1*y1*x2*x2*y2*y3 + d*x1*x1*y1*x2*y2*y2*x3 + d*x1*y1*y1*x2*x2*y2*x3 - d*x1*y1*y1*x2*y2*y2*y3 - x1*x1*x1*x2*x2*x2*y3 - x1*x1*x1*x2*x2*y2*x3 + x1*x1*x1*x2*y2*y2*y3 - x1*x1*x1*x2*y3 + x1*x1*x1*y2*y2*y2*x3 - x1*x1*x1*y2*x3 - x1*x1*y1*x2*x2*x2*x3 - x1*x1*y1*x2*x2*y2*y3 + x1*x1*y1*x2*y2*y2*x3 - x1*x1*y1*x2*x3 + x1*x1*y1*y2*y2*y2*y3 - x1*x1*y1*y2*y3 + x1*y1*y1*x2*x2*x2*y3 + x1*y1*y1*x2*x2*y2*x3 - x1*y1*y1*x2*y2*y2*y3 + x1*y1*y1*x2*y3 - x1*y1*y1*y2*y2*y2*x3 + x1*y1*y1*y2*x3 - x1*x2*x2*x2*y3 - x1*x2*x2*y2*x3 + x1*x2*y2*y2*y3 - x1*x2*y3 + x1*y2*y2*y2*x3 - x1*y2*x3 + y1*y1*y1*x2*x2*x2*x3 + y1*y1*y1*x2*x2*y2*y3 - y1*y1*y1*x2*y2*y2*x3 + y1*y1*y1*x2*x3 - y1*y1*y1*y2*y2*y2*y3 + y1*y1*y1*y2*y3 - y1*x2*x2*x2*x3 - y1*x2*x2*y2*y3 + y1*x2*y2*y2*x3 - y1*x2*x3 + y1*y2*y2*y2*y3 - y1*y2*y3)*(y3*y3-x3*x3-1-d*x3*x3*y3*y3):=by grind (splits:=0) -lia -linarith
theorem clos_F (d x1 y1 x2 y2:Fin q):(y1*y2+x1*x2)*(y1*y2+x1*x2)*((1+d*x1*y1*x2*y2)*(1+d*x1*y1*x2*y2)) - (x1*y2+x2*y1)*(x1*y2+x2*y1)*((1-d*x1*y1*x2*y2)*(1-d*x1*y1*x2*y2)) - (1+d*x1*y1*x2*y2)*(1+d*x1*y1*x2*y2)*((1-d*x1*y1*x2*y2)*(1-d*x1*y1*x2*y2)) - d*((x1*y2+x2*y1)*(x1*y2+x2*y1))*((y1*y2+x1*x2)*(y1*y2+x1*x2)) = (d*d*d*x1*x1*y1*y1*x2*x2*x2*x2*y2*y2*y2*y2 - d*d*x1*x1*x2*x2*x2*x2*y2*y2*y2*y2 + d*d*y1*y1*x2*x2*x2*x2*y2*y2*y2*y2 - d*d*x2*x2*x2*x2*y2*y2*y2*y2 - d*x1*x1*x2*x2*x2*x2*y2*y2 + d*x1*x1*x2*x2*y2*y2*y2*y2 + d*y1*y1*x2*x2*x2*x2*y2*y2 - d*y1*y1*x2*x2*y2*y2*y2*y2 - 2*d*x2*x2*x2*x2*y2*y2*y2*y2 - 2*d*x2*x2*y2*y2 - 2*x2*x2*x2*x2*y2*y2 + x2*x2*x2*x2 + 2*x2*x2*y2*y2*y2*y2 - 4*x2*x2*y2*y2 + y2*y2*y2*y2)*(y1*y1-x1*x1-1-d*x1*x1*y1*y1) + (d*x1*x1*x1*x1*x2*x2*y2*y2 + 2*d*x1*x1*x2*x2*y2*y2 + d*y1*y1*y1*y1*x2*x2*y2*y2 - 2*d*y1*y1*x2*x2*y2*y2 + d*x2*x2*y2*y2 + 2*x1*x1*x2*x2*y2*y2 - x1*x1*x2*x2 + x1*x1*y2*y2 - 2*y1*y1*x2*x2*y2*y2 + y1*y1*x2*x2 - y1*y1*y2*y2 + 2*x2*x2*y2*y2 - x2*x2 + y2*y2 + 1)*(y2*y2-x2*x2-1-d*x2*x2*y2*y2):=by grind (splits:=0) -lia -linarith
end
end Go.Eng
/- The points of a twisted Edwards curve: a commutative group. -/
namespace Go.Eng
set_option linter.unusedVariables false
section
variable {q:Nat} [NeZero q]
def Cur.On2 (C:Cur q) (P:Fin q × Fin q):Prop:=On C.d P.1 P.2
def Cur.dp (C:Cur q) (P Q:Fin q × Fin q):Fin q:=1 + C.d * P.1 * P.2 * Q.1 * Q.2
def Cur.dm (C:Cur q) (P Q:Fin q × Fin q):Fin q:=1 - C.d * P.1 * P.2 * Q.1 * Q.2
def Cur.ad (C:Cur q) (P Q:Fin q × Fin q):Fin q × Fin q:=((P.1 * Q.2 + Q.1 * P.2) * C.inv (C.dp P Q),(P.2 * Q.2 + P.1 * Q.1) * C.inv (C.dm P Q))
theorem Cur.dp_ne (C:Cur q) {P Q:Fin q × Fin q} (hP:C.On2 P) (hQ:C.On2 Q):C.dp P Q ≠ 0:=fun h =>
  C.full hP hQ (e:=-1) (by grind (splits:=0) -lia -linarith) (by unfold Cur.dp at h; grind (splits:=0) -lia -linarith)
theorem Cur.dm_ne (C:Cur q) {P Q:Fin q × Fin q} (hP:C.On2 P) (hQ:C.On2 Q):C.dm P Q ≠ 0:=fun h =>
  C.full hP hQ (e:=1) (by grind (splits:=0) -lia -linarith) (by unfold Cur.dm at h; grind (splits:=0) -lia -linarith)
theorem Cur.ad_x (C:Cur q) {P Q:Fin q × Fin q} (hP:C.On2 P) (hQ:C.On2 Q):(C.ad P Q).1 * C.dp P Q = P.1 * Q.2 + Q.1 * P.2:=by
  have h:=C.inv_mul _ (C.dp_ne hP hQ)
  show (P.1 * Q.2 + Q.1 * P.2) * C.inv (C.dp P Q) * C.dp P Q = _
  generalize C.dp P Q = D at *
  generalize C.inv D = E at *
  grind (splits:=0) -lia -linarith
theorem Cur.ad_y (C:Cur q) {P Q:Fin q × Fin q} (hP:C.On2 P) (hQ:C.On2 Q):(C.ad P Q).2 * C.dm P Q = P.2 * Q.2 + P.1 * Q.1:=by
  have h:=C.inv_mul _ (C.dm_ne hP hQ)
  show (P.2 * Q.2 + P.1 * Q.1) * C.inv (C.dm P Q) * C.dm P Q = _
  generalize C.dm P Q = D at *
  generalize C.inv D = E at *
  grind (splits:=0) -lia -linarith
theorem Cur.ad_eq (C:Cur q) {P Q R:Fin q × Fin q} (hP:C.On2 P) (hQ:C.On2 Q) (h1:R.1 * C.dp P Q = P.1 * Q.2 + Q.1 * P.2) (h2:R.2 * C.dm P Q = P.2 * Q.2 + P.1 * Q.1):C.ad P Q = R:=by
  have e1:(C.ad P Q).1 = R.1:=C.can (C.dp_ne hP hQ) ((C.ad_x hP hQ).trans h1.symm)
  have e2:(C.ad P Q).2 = R.2:=C.can (C.dm_ne hP hQ) ((C.ad_y hP hQ).trans h2.symm)
  exact Prod.ext e1 e2
theorem on_zero {d x y:Fin q} (h:On d x y):y*y-x*x-1-d*x*x*y*y = 0:=by
  unfold On at h
  grind (splits:=0) -lia -linarith
theorem clos_fin {d X Y p m:Fin q} (e:Y * m * (Y * m) * (p * p) - X * p * (X * p) * (m * m) - p * p * (m * m) - d * (X * p * (X * p)) * (Y * m * (Y * m)) = 0 + 0):(Y * Y - X * X) * (p * p * (m * m)) = (1 + d * X * X * Y * Y) * (p * p * (m * m)):=by
  grind (splits:=0) -lia -linarith
theorem clos_lin {d x1 y1 x2 y2 X Y p m:Fin q} (C:Cur q) (o1:On d x1 y1) (o2:On d x2 y2) (hp:p = 1 + d * x1 * y1 * x2 * y2) (hm:m = 1 - d * x1 * y1 * x2 * y2) (p0:p ≠ 0) (m0:m ≠ 0)
    (hX:X * p = x1 * y2 + x2 * y1) (hY:Y * m = y1 * y2 + x1 * x2):On d X Y:=by
  have e:=clos_F d x1 y1 x2 y2
  rw [on_zero o1,on_zero o2,Fin.mul_zero,Fin.mul_zero,← hX,← hY,← hp,← hm] at e
  exact C.can (C.mul_ne (C.mul_ne p0 p0) (C.mul_ne m0 m0)) (clos_fin e)
theorem Cur.ad_on (C:Cur q) {P Q:Fin q × Fin q} (hP:C.On2 P) (hQ:C.On2 Q):C.On2 (C.ad P Q) :=
  clos_lin C hP hQ rfl rfl (C.dp_ne hP hQ) (C.dm_ne hP hQ) (C.ad_x hP hQ) (C.ad_y hP hQ)
theorem asx_fin {d x1 y1 x3 y3 xs ys xr yr p m p' m' U V:Fin q} (e:((xs * p) * m * y3 + x3 * ((ys * m) * p)) * (p' * m' + d * x1 * y1 * (xr * p') * (yr * m')) - (x1 * ((yr * m') * p') + (xr * p') * m' * y1) * (p * m + d * (xs * p) * (ys * m) * x3 * y3) = 0 + 0 + 0)
    (hU:U * (1 + d * xs * ys * x3 * y3) = xs * y3 + x3 * ys) (hV:V * (1 + d * x1 * y1 * xr * yr) = x1 * yr + xr * y1) :
    U * (p * m * (1 + d * xs * ys * x3 * y3) * (p' * m' * (1 + d * x1 * y1 * xr * yr))) = V * (p * m * (1 + d * xs * ys * x3 * y3) * (p' * m' * (1 + d * x1 * y1 * xr * yr))):=by
  have e1:U * (p * m * (1 + d * xs * ys * x3 * y3) * (p' * m' * (1 + d * x1 * y1 * xr * yr))) = (U * (1 + d * xs * ys * x3 * y3)) * (p * m * (p' * m' * (1 + d * x1 * y1 * xr * yr))):=by clear e hU hV; grind (splits:=0) -lia -linarith
  have e2:V * (p * m * (1 + d * xs * ys * x3 * y3) * (p' * m' * (1 + d * x1 * y1 * xr * yr))) = (V * (1 + d * x1 * y1 * xr * yr)) * (p * m * (1 + d * xs * ys * x3 * y3) * (p' * m')):=by clear e hU hV; grind (splits:=0) -lia -linarith
  rw [e1,e2,hU,hV]
  clear e1 e2 hU hV
  grind (splits:=0) -lia -linarith
theorem asy_fin {d x1 y1 x3 y3 xs ys xr yr p m p' m' U V:Fin q} (e:((ys * m) * p * y3 + (xs * p) * m * x3) * (p' * m' - d * x1 * y1 * (xr * p') * (yr * m')) - (y1 * ((yr * m') * p') + x1 * ((xr * p') * m')) * (p * m - d * (xs * p) * (ys * m) * x3 * y3) = 0 + 0 + 0)
    (hU:U * (1 - d * xs * ys * x3 * y3) = ys * y3 + xs * x3) (hV:V * (1 - d * x1 * y1 * xr * yr) = y1 * yr + x1 * xr) :
    U * (p * m * (1 - d * xs * ys * x3 * y3) * (p' * m' * (1 - d * x1 * y1 * xr * yr))) = V * (p * m * (1 - d * xs * ys * x3 * y3) * (p' * m' * (1 - d * x1 * y1 * xr * yr))):=by
  have e1:U * (p * m * (1 - d * xs * ys * x3 * y3) * (p' * m' * (1 - d * x1 * y1 * xr * yr))) = (U * (1 - d * xs * ys * x3 * y3)) * (p * m * (p' * m' * (1 - d * x1 * y1 * xr * yr))):=by clear e hU hV; grind (splits:=0) -lia -linarith
  have e2:V * (p * m * (1 - d * xs * ys * x3 * y3) * (p' * m' * (1 - d * x1 * y1 * xr * yr))) = (V * (1 - d * x1 * y1 * xr * yr)) * (p * m * (1 - d * xs * ys * x3 * y3) * (p' * m')):=by clear e hU hV; grind (splits:=0) -lia -linarith
  rw [e1,e2,hU,hV]
  clear e1 e2 hU hV
  grind (splits:=0) -lia -linarith
theorem asx_lin {d x1 y1 x2 y2 x3 y3 xs ys xr yr p m p' m' U V g k:Fin q} (C:Cur q) (o1:On d x1 y1) (o2:On d x2 y2) (o3:On d x3 y3)
    (hp:p = 1 + d * x1 * y1 * x2 * y2) (hm:m = 1 - d * x1 * y1 * x2 * y2) (hp':p' = 1 + d * x2 * y2 * x3 * y3) (hm':m' = 1 - d * x2 * y2 * x3 * y3)
    (p0:p ≠ 0) (m0:m ≠ 0) (p0':p' ≠ 0) (m0':m' ≠ 0) (hg:g = 1 + d * xs * ys * x3 * y3) (hk:k = 1 + d * x1 * y1 * xr * yr) (g0:g ≠ 0) (k0:k ≠ 0)
    (hxs:xs * p = x1 * y2 + x2 * y1) (hys:ys * m = y1 * y2 + x1 * x2) (hxr:xr * p' = x2 * y3 + x3 * y2) (hyr:yr * m' = y2 * y3 + x2 * x3)
    (hU:U * g = xs * y3 + x3 * ys) (hV:V * k = x1 * yr + xr * y1):U = V:=by
  have e:=assoc_x_F d x1 y1 x2 y2 x3 y3
  rw [on_zero o1,on_zero o2,on_zero o3,Fin.mul_zero,Fin.mul_zero,Fin.mul_zero,← hxs,← hys,← hxr,← hyr,← hp,← hm,← hp',← hm'] at e
  refine C.can (C.mul_ne (C.mul_ne (C.mul_ne p0 m0) g0) (C.mul_ne (C.mul_ne p0' m0') k0)) ?_
  clear hp hm hp' hm' p0 m0 p0' m0' g0 k0 hxs hys hxr hyr o1 o2 o3 C
  subst hg hk
  exact asx_fin e hU hV
theorem asy_lin {d x1 y1 x2 y2 x3 y3 xs ys xr yr p m p' m' U V g k:Fin q} (C:Cur q) (o1:On d x1 y1) (o2:On d x2 y2) (o3:On d x3 y3)
    (hp:p = 1 + d * x1 * y1 * x2 * y2) (hm:m = 1 - d * x1 * y1 * x2 * y2) (hp':p' = 1 + d * x2 * y2 * x3 * y3) (hm':m' = 1 - d * x2 * y2 * x3 * y3)
    (p0:p ≠ 0) (m0:m ≠ 0) (p0':p' ≠ 0) (m0':m' ≠ 0) (hg:g = 1 - d * xs * ys * x3 * y3) (hk:k = 1 - d * x1 * y1 * xr * yr) (g0:g ≠ 0) (k0:k ≠ 0)
    (hxs:xs * p = x1 * y2 + x2 * y1) (hys:ys * m = y1 * y2 + x1 * x2) (hxr:xr * p' = x2 * y3 + x3 * y2) (hyr:yr * m' = y2 * y3 + x2 * x3)
    (hU:U * g = ys * y3 + xs * x3) (hV:V * k = y1 * yr + x1 * xr):U = V:=by
  have e:=assoc_y_F d x1 y1 x2 y2 x3 y3
  rw [on_zero o1,on_zero o2,on_zero o3,Fin.mul_zero,Fin.mul_zero,Fin.mul_zero,← hxs,← hys,← hxr,← hyr,← hp,← hm,← hp',← hm'] at e
  refine C.can (C.mul_ne (C.mul_ne (C.mul_ne p0 m0) g0) (C.mul_ne (C.mul_ne p0' m0') k0)) ?_
  clear hp hm hp' hm' p0 m0 p0' m0' g0 k0 hxs hys hxr hyr o1 o2 o3 C
  subst hg hk
  exact asy_fin e hU hV
theorem Cur.ad_assoc (C:Cur q) {P Q R:Fin q × Fin q} (hP:C.On2 P) (hQ:C.On2 Q) (hR:C.On2 R):C.ad (C.ad P Q) R = C.ad P (C.ad Q R):=by
  have hS:=C.ad_on hP hQ
  have hT:=C.ad_on hQ hR
  refine Prod.ext ?_ ?_
  · exact asx_lin C hP hQ hR rfl rfl rfl rfl (C.dp_ne hP hQ) (C.dm_ne hP hQ) (C.dp_ne hQ hR) (C.dm_ne hQ hR) rfl rfl (C.dp_ne hS hR) (C.dp_ne hP hT) (C.ad_x hP hQ) (C.ad_y hP hQ) (C.ad_x hQ hR) (C.ad_y hQ hR) (C.ad_x hS hR) (C.ad_x hP hT)
  · exact asy_lin C hP hQ hR rfl rfl rfl rfl (C.dp_ne hP hQ) (C.dm_ne hP hQ) (C.dp_ne hQ hR) (C.dm_ne hQ hR) rfl rfl (C.dm_ne hS hR) (C.dm_ne hP hT) (C.ad_x hP hQ) (C.ad_y hP hQ) (C.ad_x hQ hR) (C.ad_y hQ hR) (C.ad_y hS hR) (C.ad_y hP hT)
theorem Cur.ad_comm (C:Cur q) (P Q:Fin q × Fin q):C.ad P Q = C.ad Q P:=by
  have h1:C.dp P Q = C.dp Q P:=by unfold Cur.dp; grind (splits:=0) -lia -linarith
  have h2:C.dm P Q = C.dm Q P:=by unfold Cur.dm; grind (splits:=0) -lia -linarith
  unfold Cur.ad
  rw [h1,h2]
  refine Prod.ext ?_ ?_
  · show (P.1 * Q.2 + Q.1 * P.2) * _ = (Q.1 * P.2 + P.1 * Q.2) * _
    rw [show P.1 * Q.2 + Q.1 * P.2 = Q.1 * P.2 + P.1 * Q.2 by grind (splits:=0) -lia -linarith]
  · show (P.2 * Q.2 + P.1 * Q.1) * _ = (Q.2 * P.2 + Q.1 * P.1) * _
    rw [Fin.mul_comm P.2,Fin.mul_comm P.1]
def zeroP (q:Nat) [NeZero q]:Fin q × Fin q:=(0,1)
def negA (P:Fin q × Fin q):Fin q × Fin q:=(-P.1,P.2)
theorem Cur.zero_on (C:Cur q):C.On2 (zeroP q):=by
  show (1:Fin q) * 1 - 0 * 0 = 1 + C.d * 0 * 0 * 1 * 1
  grind (splits:=0) -lia -linarith
theorem Cur.neg_on (C:Cur q) {P:Fin q × Fin q} (hP:C.On2 P):C.On2 (negA P):=by
  obtain ⟨x,y⟩:=P
  have h:y * y - x * x = 1 + C.d * x * x * y * y:=hP
  show y * y - (-x) * (-x) = 1 + C.d * (-x) * (-x) * y * y
  grind (splits:=0) -lia -linarith
theorem Cur.ad_zero (C:Cur q) {P:Fin q × Fin q} (hP:C.On2 P):C.ad P (zeroP q) = P:=by
  refine C.ad_eq hP C.zero_on ?_ ?_
  · show P.1 * (1 + C.d * P.1 * P.2 * 0 * 1) = P.1 * 1 + 0 * P.2
    grind (splits:=0) -lia -linarith
  · show P.2 * (1 - C.d * P.1 * P.2 * 0 * 1) = P.2 * 1 + P.1 * 0
    grind (splits:=0) -lia -linarith
theorem Cur.ad_neg (C:Cur q) {P:Fin q × Fin q} (hP:C.On2 P):C.ad P (negA P) = zeroP q:=by
  refine C.ad_eq hP (C.neg_on hP) ?_ ?_
  · show 0 * (1 + C.d * P.1 * P.2 * (-P.1) * P.2) = P.1 * P.2 + (-P.1) * P.2
    grind (splits:=0) -lia -linarith
  · have h:P.2 * P.2 - P.1 * P.1 = 1 + C.d * P.1 * P.1 * P.2 * P.2:=hP
    show 1 * (1 - C.d * P.1 * P.2 * (-P.1) * P.2) = P.2 * P.2 + P.1 * (-P.1)
    grind (splits:=0) -lia -linarith
def Cur.G (C:Cur q):Type:={P:Fin q × Fin q // C.On2 P}
def Cur.add (C:Cur q) (a b:C.G):C.G:=⟨C.ad a.1 b.1,C.ad_on a.2 b.2⟩
def Cur.zero (C:Cur q):C.G:=⟨zeroP q,C.zero_on⟩
def Cur.neg (C:Cur q) (a:C.G):C.G:=⟨negA a.1,C.neg_on a.2⟩
theorem Cur.add_comm (C:Cur q) (a b:C.G):C.add a b = C.add b a:=Subtype.ext (C.ad_comm _ _)
theorem Cur.add_assoc (C:Cur q) (a b c:C.G):C.add (C.add a b) c = C.add a (C.add b c):=Subtype.ext (C.ad_assoc a.2 b.2 c.2)
theorem Cur.add_zero (C:Cur q) (a:C.G):C.add a C.zero = a:=Subtype.ext (C.ad_zero a.2)
theorem Cur.zero_add (C:Cur q) (a:C.G):C.add C.zero a = a:=(C.add_comm _ _).trans (C.add_zero a)
theorem Cur.add_neg (C:Cur q) (a:C.G):C.add a (C.neg a) = C.zero:=Subtype.ext (C.ad_neg a.2)
theorem Cur.neg_add (C:Cur q) (a:C.G):C.add (C.neg a) a = C.zero:=(C.add_comm _ _).trans (C.add_neg a)
theorem Cur.left_comm (C:Cur q) (a b c:C.G):C.add a (C.add b c) = C.add b (C.add a c):=by
  rw [← C.add_assoc,C.add_comm a b,C.add_assoc]
theorem Cur.add_can (C:Cur q) {a b c:C.G} (h:C.add a c = C.add b c):a = b:=by
  have:=congrArg (fun x => C.add x (C.neg c)) h
  simp only [C.add_assoc,C.add_neg,C.add_zero] at this
  exact this
theorem Cur.neg_eq (C:Cur q) {a b:C.G} (h:C.add a b = C.zero):a = C.neg b:=C.add_can (h.trans (C.neg_add b).symm)
theorem Cur.neg_neg (C:Cur q) (a:C.G):C.neg (C.neg a) = a:=(C.neg_eq (C.add_neg a)).symm
def Cur.nsm (C:Cur q):Nat→C.G→C.G
  | 0,_ => C.zero
  | n + 1,a => C.add (C.nsm n a) a
theorem Cur.nsm_one (C:Cur q) (a:C.G):C.nsm 1 a = a:=C.zero_add a
theorem Cur.nsm_add (C:Cur q) (m n:Nat) (a:C.G):C.nsm (m + n) a = C.add (C.nsm m a) (C.nsm n a):=by
  induction n with
  | zero => exact (C.add_zero _).symm
  | succ n ih => show C.add (C.nsm (m + n) a) a = C.add _ (C.add (C.nsm n a) a); rw [ih,C.add_assoc]
theorem Cur.nsm_mul (C:Cur q) (m n:Nat) (a:C.G):C.nsm (m * n) a = C.nsm m (C.nsm n a):=by
  induction m with
  | zero => rw [Nat.zero_mul]; rfl
  | succ m ih => rw [Nat.succ_mul,C.nsm_add,ih]; rfl
theorem Cur.nsm_zero (C:Cur q) (n:Nat):C.nsm n C.zero = C.zero:=by
  induction n with
  | zero => rfl
  | succ n ih => show C.add (C.nsm n C.zero) C.zero = _; rw [ih,C.add_zero]
theorem Cur.nsm_sum (C:Cur q) (n:Nat) (a b:C.G):C.nsm n (C.add a b) = C.add (C.nsm n a) (C.nsm n b):=by
  induction n with
  | zero => exact (C.add_zero _).symm
  | succ n ih =>
    show C.add (C.nsm n (C.add a b)) (C.add a b) = C.add (C.add (C.nsm n a) a) (C.add (C.nsm n b) b)
    rw [ih,C.add_assoc,C.add_assoc,C.left_comm (C.nsm n b) a b]
theorem Cur.nsm_mod (C:Cur q) {L:Nat} {a:C.G} (h:C.nsm L a = C.zero) (n:Nat):C.nsm (n % L) a = C.nsm n a:=by
  have e:C.nsm (L * (n / L) + n % L) a = C.nsm n a:=by rw [Nat.div_add_mod]
  rw [C.nsm_add,Nat.mul_comm,C.nsm_mul,h,C.nsm_zero,C.zero_add] at e
  exact e
theorem Cur.nsm_comm (C:Cur q) (m n:Nat) (a:C.G):C.nsm m (C.nsm n a) = C.nsm n (C.nsm m a):=by
  rw [← C.nsm_mul,Nat.mul_comm,C.nsm_mul]
end
end Go.Eng
/- The curve of the program: its field, its d, and that the group's laws speak of it. -/
namespace Go.Eng
set_option linter.unusedVariables false
def QP:Nat:=P25
instance : NeZero QP := ⟨by unfold QP; decide⟩
theorem QP_pos:0 < QP:=by unfold QP; decide
def fn (n:Nat):Fin QP:=⟨n % QP,Nat.mod_lt _ QP_pos⟩
theorem fn_eq {a b:Nat}:fn a = fn b ↔ a % P25 = b % P25:=by
  constructor
  · intro h; exact congrArg Fin.val h
  · intro h; exact Fin.ext h
theorem fn_add (a b:Nat):fn (a + b) = fn a + fn b:=by
  apply Fin.ext
  rw [Fin.val_add]
  exact Nat.add_mod _ _ _
theorem fn_mul (a b:Nat):fn (a * b) = fn a * fn b:=by
  apply Fin.ext
  rw [Fin.val_mul]
  exact Nat.mul_mod _ _ _
theorem fn_val (a:Fin QP):fn a.val = a:=Fin.ext (Nat.mod_eq_of_lt a.isLt)
theorem fn_mod (n:Nat):fn (n % P25) = fn n:=fn_eq.2 (Nat.mod_mod _ _)
theorem fn_zero:fn 0 = 0:=Fin.ext (Nat.zero_mod _)
theorem fn_one:fn 1 = 1:=rfl
theorem fn_two:fn 2 = 2:=rfl
theorem fn_eq0 {a:Nat}:fn a = 0 ↔ a % P25 = 0:=by rw [← fn_zero,fn_eq,Nat.zero_mod]
theorem fn_sub {a b c:Nat} (h:(a + b) % P25 = c % P25):fn a = fn c - fn b:=by
  have:=fn_eq.2 h
  rw [fn_add] at this
  grind (splits:=0) -lia -linarith
theorem val_fn (n:Nat):(fn n).val = n % P25:=rfl
theorem QP_lt (a:Fin QP):a.val < P25:=a.isLt
theorem noz_Q (a b:Fin QP) (h:a * b = 0):a = 0 ∨ b = 0:=by
  rw [← fn_val a,← fn_val b,← fn_mul,fn_eq0] at h
  rcases noZero h with h | h
  · exact .inl (by rw [← fn_val a]; exact fn_eq0.2 h)
  · exact .inr (by rw [← fn_val b]; exact fn_eq0.2 h)
def invQ (a:Fin QP):Fin QP:=fn (a.val ^ expF 235 255)
theorem dvd_fn {n:Nat} (h:P25 ∣ n):fn n = 0:=fn_eq0.2 (Nat.mod_eq_zero_of_dvd h)
theorem inv_Q (a:Fin QP) (h:a ≠ 0):a * invQ a = 1:=by
  have h1:¬ P25 ∣ a.val:=fun hd => h (by rw [← fn_val a]; exact dvd_fn hd)
  have:=fermat_succ prP h1 exp_inv1
  have e:a * invQ a = fn (a.val * a.val ^ expF 235 255):=by rw [fn_mul,fn_val]; rfl
  rw [e,← fn_one,fn_eq]
  exact this
def iNQ:Nat:=19681161376707505956807079304988542015446066515923890162744021073123829784752
theorem ii_Q:fn iNQ * fn iNQ = -1:=by
  have:fn (iNQ * iNQ + 1) = 0:=fn_eq0.2 (by decide +kernel)
  rw [fn_add,fn_mul,fn_one] at this
  grind (splits:=0) -lia -linarith
abbrev dQN:Nat:=37095705934669439343138083508754565189542113879843219016388785533085940283555
abbrev hQN:Nat:=28948022309329048855892746252171976963317496166410141009864396001978282409974
theorem d_half:dQN ^ hQN % P25 = P25 - 1:=by
  rw [← pm_eq dQN P25 256 hQN (by decide +kernel)]
  decide +kernel
theorem nsqN {p h d a b:Nat} (hp:Pr p) (h3:2 < p) (hh:h + h = p - 1) (hd:d ^ h % p = p - 1) (e:a * a % p = d * (b * b) % p):b % p = 0:=by
  by_cases hb:p ∣ b
  · exact Nat.mod_eq_zero_of_dvd hb
  exfalso
  have f1:=pow_mod_congr e h
  have eb:=fermat hp hb
  have e2:(d * (b * b)) ^ h % p = p - 1:=by
    rw [Nat.mul_pow,← Nat.pow_two,← Nat.pow_mul,Nat.two_mul,hh,Nat.mul_mod,hd,eb,Nat.mul_one,Nat.mod_eq_of_lt (by omega)]
  rw [e2,← Nat.pow_two,← Nat.pow_mul,Nat.two_mul,hh] at f1
  by_cases ha:p ∣ a
  · obtain ⟨k,rfl⟩:=ha
    have:(p * k) ^ (p - 1) % p = 0:=by
      rw [Nat.pow_mod,Nat.mul_mod_right,Nat.zero_pow (by omega),Nat.zero_mod]
    omega
  · rw [fermat hp ha] at f1
    omega
theorem nsq_Q (a b:Fin QP) (h:a * a = fn dQN * (b * b)):b = 0:=by
  rw [← fn_val a,← fn_val b,← fn_mul,← fn_mul,← fn_mul,fn_eq] at h
  rw [← fn_val b]
  exact fn_eq0.2 (nsqN (h:=hQN) prP (by decide) (by decide) d_half h)
def CP:Cur QP where
  d:=fn dQN
  i:=fn iNQ
  inv:=invQ
  noz:=noz_Q
  inv_mul:=inv_Q
  ii:=ii_Q
  nsq:=nsq_Q
  h1:=fun h => by rw [← fn_one,fn_eq0] at h; revert h; decide
  h2:=fun h => by rw [← fn_two,fn_eq0] at h; revert h; decide
end Go.Eng
/- The base's order: a chain of points, each looked at. -/
namespace Go.Eng
set_option linter.unusedVariables false
set_option maxRecDepth 100000
def stepB (d x1 y1 x2 y2 x3 y3 dl:Nat):Bool:=Nat.beq (x3 * (1 + dl) % P25) ((x1 * y2 + x2 * y1) % P25) && Nat.beq (y3 * (1 + (P25 - dl)) % P25) ((y1 * y2 + x1 * x2) % P25)
def dlN (d x1 y1 x2 y2:Nat):Nat:=d * x1 % P25 * y1 % P25 * x2 % P25 * y2 % P25
abbrev bxN:Nat:=15112221349535400772501151409588531511454012693041857206046113283949847762202
abbrev byN:Nat:=46316835694926478169428394003475163141307993866256225615783033603165251855960
def chainB (d:Nat):List (Bool × Nat × Nat)→Nat→Nat→Bool
  | [],x,y => Nat.beq (x % P25) 0 && Nat.beq (y % P25) 1
  | (false,u,v) :: r,x,y => cond (stepB d x y x y u v (dlN d x y x y)) (chainB d r u v) false
  | (true,u,v) :: r,x,y => cond (stepB d x y bxN byN u v (dlN d x y bxN byN)) (chainB d r u v) false
def chainM:List (Bool × Nat × Nat)→Nat→Nat
  | [],m => m
  | (false,_,_) :: r,m => chainM r (m + m)
  | (true,_,_) :: r,m => chainM r (m + 1)
def ordL:List (Bool × Nat × Nat):=[
  (false,24727413235106541002554574571675588834622768167397638456726423682521233608206,15549675580280190176352668710449542251549572066445060580507079593062643049417),
  (false,14582954232372986451776170844943001818709880559417862259286374126315108956272,32483318716863467900234833297694612235682047836132991208333042722294373421359),
  (false,46706390780465557264338673484185971070529246228527338942042475661633188627656,15299170165656271974649334809062094114079726227711063015095704409550798436788),
  (false,16121637619009607773439840283436156467545443443832420589584197780484295031288,50925107901044861941301590032293890690813323578124472818968980802518735333355),
  (false,26148317933504540005443173402042326458672162458767831815669826413036406984486,30850316547316149219369061290562558254923949145644564178378051444253659681385),
  (false,2703967047724422927942795606844806438471095130334849099131707700624039388171,27636351750987415494008535949645960827550590090960186204735008729987540453670),
  (false,25155917782814837260398069725241853231864729763246304429004555936282046356871,18508826420441071939750277538143617204571229748311242415842946762595677996796),
  (false,42740085206947573681423002599456489563927820004573071834350074001818321593686,6935684722522267618220753829624209639984359598320562595061366101608187623111),
  (false,21224688672439988911666787158810613738323773477623112347883957939967013762058,38366836778969845606589656703794235990595431744668605526092433715493688021992),
  (false,48427913736837608266186835246980452511660467837864105011084951035203551898472,12175353081024358281744367214419414005476983323671937693306148471852937756989),
  (false,27186305465236551749842573802124445331552679641832078930108365447931276498935,2312041997451586708872587523550236508157965803316305389071105927566014363214),
  (false,56574002287690562566387008107654176112985293065528815433473093068153251878634,40555259698712479228142211631679471073561232444601298047972603499607234388181),
  (false,10780707225527799223727042055056551995903319194379151477081117380874163309022,52019749602470059668344983068026172384793681144736228079710257376320252456841),
  (false,3464320599267112696879288753247079893959896359625474425290602150960671705994,51694133746787581571724731688211103718833232899104586370422228323317173487873),
  (false,41301554414245700419639718923570458390119154231634759147665520927567584100098,29364674778601018936997556626806786174514088488710242926018946766714482756934),
  (false,42474966419402231471674152001358115696747244471432888578155981280875302200677,20182938281251249849712136486927848134532420155649429100890386875073412000822),
  (false,52869748631960986034856376238747990075784338722812323924650009680084842073895,3796174517710171698598804855217198428321733657889201949428151222167600506353),
  (false,48142588613070057936665739918694510016346910601601381787709232357287830656052,10385474060292222039643213821294435966838835008701008210657350549376377214577),
  (false,16394032366096881154453202042718985456910765089875944486157716261812202804788,25091281840661552205135748393579341584120703124592003105179293019326456324854),
  (false,3030652980257820293954590240644581873411659236202283991563565950415750739437,3449896845806921515373747351251070124616437120332303971385432452490848855288),
  (false,32641263228758150355667687431806095122956256108730064648049172982697192869757,52273704419139405159775014317290835933664475552332708366394330415164319248459),
  (false,26993053454492735757774095526931594398941435313067218024451801426996192317244,20756573878643363325793821026438350840612369149764266371668034898098235986297),
  (false,31520167665919384194696730538735098277674977480128774019718915946563876798036,48871947419602552330465379555019735272161840172752412330071639916632071437120),
  (false,4953187230743962930662113245944254306680232166954327932822645132912059759223,14955570584878506545981286824704959560776362796341363640094685063311756888261),
  (false,19657949635683093185289569710211585343964433529222332533539288290160154185011,56892661656082980073316383795158683496393820909924608301927348333889896713218),
  (false,46976510156322507137269201780554059652401452413839958562844701649608332008299,25448670393978825583576233442397517457541692536451699283561630611656102572950),
  (false,18958742773298937073755619970621164217249748928981220693078384958060703810681,49060669014889618634034845030820105181036997350936347239322049348217814945797),
  (false,13692443628628542482398138298848103782249043847728748207160598387591474036267,6535661448952062909216951562535374120699607245381865810845630213621355776630),
  (false,44073126145632928819502260833325828264688543470827754699842109261297194996573,25708642289863751966302024225237904726630733908921048717331198880892436709901),
  (false,32998196372564612992359818786763423324015994136376432300157753889179321890705,22310901527710631603180993315816672899331474004376446475717230095796374000992),
  (false,54882909907635354958311263340029521311980981711637644057731212095996500430552,42932185445836734984879765196158360688663229692937278561535355964359997581186),
  (false,34881215023217925273427507880129132732978197777830040111026122875038460546235,49417579777138232809020590461442191010157021293872759678974198530760482863386),
  (false,34085450069500794510152409520807677869950508039913904939590977699961040436501,52278291416665193925925829527972181593462278765769350530558236265859287513035),
  (false,23406589806172960174851795884335653806454241620752476244917220156478142938335,37854925133430588252830311134599570623631025784885083249593544768206604501465),
  (false,30886537925985998524254955874096819652783119677955825045199375216769416949702,54037904725904619508111005987774813902206702994070596763696498304265167397445),
  (false,19639451821147740670698624700272734820894813909735291580470206199768700605392,57494903421850047051437277431621495081848935660098712752929417894600320224466),
  (false,12469452200683121609960440379957844757586634886744101850068664139886892025012,10489147278187110362134995111963226564141046001348941075622680658741593532648),
  (false,549689331659327561605194692422602825769416452111816234011461274565005995655,51469744701391552480837245041655791053255331145812797331218148961728035441779),
  (false,45113617814944202352153583642261178502360614596484279216729123193977391993714,1980278042691965713981149139930452264163076071667628639090250557504770174587),
  (false,6975916580616431138430993573433071747917420592434172169347774209021880766693,27729946105412964655112236315850267932468036882545041507320998583854342562650),
  (false,26721402367527682574942110461580517411213448744716771766358148163877301105728,9288387344892172799170744310978976179910527092723579902952158489343272868948),
  (false,10988524301762373242246727351929902921498129982664316002800509126742121162784,28440719635374571293396157229875541269413226941353902928329788578666889313331),
  (false,40716425138725944745186331899970009610267626729218118393270956274853491203124,46769152930682528968583401401235025295039214644177585564512426226384755878073),
  (false,37510741031459341378829814964903502667912927266993467424549080808057139144766,57303500313920857781889356400330248464357243021787478340933447880777082073539),
  (false,36241354563762173459705108462830400635564419268406145900966660417613821977637,21485101354679558701669270959816344644464678765615788190638683578533731429966),
  (false,20584796599643323532861987265526248228488799407283500188808238372131189701480,26478740800733269288198131365468684670960535144929794027484143547518195267108),
  (false,39134758420864184254969116302644788663556954029588642642423917089530226989597,5124259569483350729196958378822907526496602783247669422492733697864938451662),
  (false,37386868568128681599499830859763869162133292900805977973436494315455022169426,36563616321823734465666870349235432940379598201907262626645125270466793116054),
  (false,28582163575878071020286779611073458927627633926762077980797377317166201949523,29517287490576008752010229265386725675942288741512148107897703457428460766064),
  (false,6664938945656958224937745274414537263586471401885907820916253978327430063844,2126634075982654318590492885153132310981526013601685661016577258450272533730),
  (false,26893906638378427820269402226975745300041457754729633179574373243303786072539,23888113636819035429926907107258444263090323522691660954731306854220582218409),
  (false,189355175404241672738129259114556965478340615081311091777345303360588540836,51767299105794865359908754261640899704919154549996018629901376258684159289317),
  (false,14160459449409432346176007562822108240728702992215244509282193488000767962072,40953833938605278231697173707354259912669188943485919940833211413684494670284),
  (false,4068261697406638961935849621742963533803537470089883744480903389537982658853,17740693327176817854801454122587194558819032432129012706849247534385017891832),
  (false,11823766772564295466429875255239566661981081448176083546584427805840615152756,54040755356101629851791062456974045253014690287858169301317937866514626344693),
  (false,51502639449004291622700088031154688719483163480862436225495097465744471100900,25964330211653062987717188781243886463821901684982951650673786718455132103697),
  (false,21734724549841690193090842476809076716419456331211857741265759957945129922704,29304975373538996048835671269729647815982116853415896625128567603603329907841),
  (false,30001687184291412988809724842551122044758922095287536204847335704949115767033,50835770704986724242436677611718431048705647431520755367710246538243619075335),
  (false,48882273411393669122044540803817352985557027118982854238955416614908556491266,11407218847596422755991434262659321162615585973279975075808294900032260014207),
  (false,39468567782001629845469931291703114351231301360810771182933666088696363117813,48520602033621835552297087477366344329736087438136796734023135166735240273716),
  (false,14634154268926673608900308779686697918188551795673908169701089186353020356853,22635139240448021868201029866848773426210620100937671088354264929878430660010),
  (false,40334547811194980222132355507048888492367411465942395326465999366654848330295,30141215867806221944935945054462736214036523470954538064480540475644488758752),
  (false,1858744241653336215343795677286102722518125133862047495966642301222759149346,51688159461706094879304629140765766764511202268320054417312410136779795003785),
  (false,44388040078108422381599858079345000847427885062711346041771517276226329616898,1423604317745427322790381226394774763053130405907994130724317794966956167955),
  (false,1010247752756362260881243234901448331704228065985397871388404881884689704343,34905110436806704375115117043721051740842418404017689336019589974414716422638),
  (false,49444157831517844751255683186086055092391671187830014667142777982061391761769,38325651754372413483217343763106935496036760575967773049932675282070249514007),
  (false,48577842308630573365019333121847151099247213871386595032531930153824808034985,11698818496297094926714371527533498792080572905846263409223249541482347665093),
  (false,51416308261230323791972553180748498853602467457543596950952167188234310296102,26500516396956780220658887122604521806411632574870530108424521362596479422245),
  (false,15426476579153824640063748107939638128818377676814173710932605230473017653035,54874201845107823946446372651255629171375058352614330916365376676602781150596),
  (false,12712558393922043510311116546282894497829799292545297912541506421626765270056,39685799954857566999031473139583267673043941812564928655249869908845569230293),
  (false,35966709613487039836771455641568151899303686490727459701589928757130906345287,4590715909301946484670322652103488894781039724476604802293138388114824244525),
  (false,14209203893922473311723595664823042609383238336090280855951284872268697714335,54096248485646036580969450637608332943982160324686939405543494070853926149657),
  (false,50225331128728478106780859889537807505048902429356838599409066831481056211564,48567226733225781276449566422287543329128010889111409895804967816670485558982),
  (false,14277504181738407774235093378032955288190316525985673811547794837958257411428,44871378086723879356737413210653521226866440740474535279860816276104559603579),
  (false,32418571708367977452352489589045334204504079160877254915429124079150328663559,18387148233383658620287056230463085911877635595024572348568551271925735393572),
  (false,15779270961168218795229828090701533240215204226023372799860239005869904877004,44830166261951740603279398495576682241725607809926503424472229723689170610363),
  (false,11934888751358376585367388605542262864084187912753477682625882954803615290685,14214449243666306908341928066213895894989764915988732118960193112150360243653),
  (false,24745401508182352002952447462187517145313719592095512250459315231990663674346,12605203304109359736839575646170095420028150170075032505021828813425976392506),
  (false,7139742008745815782467698207918707217570867389629573492211592981809669859250,10391024330052931068916219853641704524060189883573610974407450960946334497572),
  (false,43672721813094808158322153823698981319419680095264823938511427045013292716276,26774469600843634339468622105851699981555180542412972644232493480876266571002),
  (false,3989370560455708984633793475698444523747174347184717690382157232120584787329,32505703979076959151485506556792486289027941138272760644562679672175933443866),
  (false,5059886806144239654386250234132239322534981646959530787642810205204823263599,44781990901350621119000479168942884261150661419375333506507720470732519651804),
  (false,5034499113101539419171195675489016129397586213000300161297322761474792468007,38984291250628169793609367006953049629309747617110716218706415095166866209475),
  (false,28701589195663402661877848408121388944364705228705833837290335451947214372354,7204387230095814289155112784314167486479491389461677700039482462117900149790),
  (false,4043104448796842162745666493312998641829351915822871392692138036596732345587,25583947464430871653586840964872231498494354583644780039898113211018348195426),
  (false,16967413801548701797242886843680090165318588349974756792262810250234279035069,44697289841450513164033704384247986028022748316827147885385602092788632953231),
  (false,2579649274306548849837733000395332723289589758529702916422942026934274000925,15903853772550703579537912563242422228297542773675645660330868481778530607407),
  (false,47877216812782924174466763867175181383956969618415943364604849026510454529253,28112003636980376946454994616205437214785284325558286572284790568403397987982),
  (false,44624650523877827989751820302168351134993681066479444271153806569668535957209,27714478525736819310693039843449131161995095049081766735341612278922679271227),
  (false,35329897255136253373431638007078284535646557446689786639069168126562061520510,48102472413184753722918898271017592259334671993463580839736558443832467501512),
  (false,57854637032597121065424460477283781507211162156907553379809587845807142677871,8595708305423838218427337239184970131694134488607489845436010670114592093907),
  (false,13661732206155304631473207485375887840040863051006406460921523783662717752866,18702667302471406267943646186561629076477578914690077859029294500205891615865),
  (false,34678801872141263131717568048919688293891458498596049038512335591958388269398,14051700864432503195603174423174243178139259455397278969489826247036072519711),
  (false,56271287709999114249430521279143619599708294450613804315340758418615759138947,26709183970593361440546052460951843372876673094798344582055628577437062451),
  (false,4941794609987678981879188000114348043986995390085707309908914207158224370220,11393072468401385903230649060352828887982933982104030268046685519118680025095),
  (false,37070215148198071430799085968753265750032279687669442199535644547659159008720,24277510719184982406390712670096807578634110983235809048632298767886642985665),
  (false,39149621700212626749621435400351405351231184907008598760301451381081013983041,34503224398479003962600496102980592214075457369331528461237883842917276072424),
  (false,23185922985978961765525879604265755828711139395011139482900477285540574790618,36367764535089816925445391884049081669258296710246889978535540710889807755205),
  (false,23334028275166191184164139591657077754376896079733520656064186218287653342618,41978652946500496924928875394389872458253357230394695728294241695963720135571),
  (false,28796363583862847668812044605178507244825877227342242014774155208318462834757,55234959353662462202983325031925176159492936554011128458548182362800408727260),
  (false,22152377815713073885123024134220181662013025517934765653685593051807730951109,20210740406512502967027943336656788111164148198915921899551468572151061000341),
  (false,43620949520144324161844112921540314179791160756548604822571317354672290688656,55960850383955117084497078728968100220583635988916106362750056582565381170825),
  (false,13910242112313529748247338058346265735204793031963188360415155111564876935229,28026033346964984143781324810989054090462624756509060308165423548333335784666),
  (false,11371879162373812903597632893053130771100210169456679508604354695621139343631,5678923034335803499854193512949185707312411812586470592763075824256665264606),
  (false,18362839244894279592215249911553963787851060777743113998886545263569847927955,4210807820446419651105742493190316853815492326276504789502512130186582234685),
  (false,23921107455925441612550629086478938150848187330668405596858230151041390475098,12599238266398634998434556842240768274292438963378237556139324609460374067494),
  (false,34696320127735655402512265767697602636168153659137920083789137692959599647944,42120638134327975966011272240411516459099234670144041314385743337890494036069),
  (false,33227521516354605999830589514515865710822327852925376114255137871690735587244,22681039011760707337500602565057111277108423406256855863837270100715275112616),
  (false,45816511225176877996140255040609219587091107439457578341038316968132283752617,36549853415134963004198791385929027950142848447981419764990803009399724054934),
  (false,4109725613230504426324669336546893204699348150375590650961079986402263006479,13548220015390787328262599706228652778399536104956932282542935971617933593799),
  (false,31674252996734707212481088088643240141425643801543286253248344469973004656554,6786196619175573608309283443380719738877074976577908471831120085453336700494),
  (false,30407400204072033917609480172618297228059702465168718418817308450301417256315,49315877793598952090227901245738270288685983126601288875006392048674637302542),
  (false,44417092014879103586055534704850737242542372632022894149816268053224964424171,28092835439062208164608941398448814112137896638247692330991965419364853280613),
  (false,55913645708648454082380885333952414587415523972517829512720425474171989429039,4170341877731070479064719941590894238873155105706772330803492495594024043916),
  (false,57358306754892087581061482960601343272150180511706384027111409727530014615872,7501227636099754662821696917164574092234190941956901631865902241653090361542),
  (false,48782782515836871628938299209492917508321674529612667649282153140637733656059,20014236295691833912353873433172840618145541540180033958100959161035845143094),
  (false,11618050754323719385443732951567856244563825728122233676622712000620990083402,42578444816027188744577909552774348432010679314070739170427174452067063733643),
  (false,31547400550276104307900899036819671847265416450370273588479799778844560833009,37367989165521616201930780541222369146292023138676617257266389707008216833638),
  (false,25956985989161136316235961527236916457717926829394295299028523314216733689351,50364565591067077996626372578228644798066456462962263809084137884269951378152),
  (false,35118750000941396177384144572236461584765045922296921590426241445782749078564,22276559719444846469370701617737789620267379936674566170770241509797286014565),
  (false,15495667847963519095070902975254013254054297059438951355864834066532640060236,44548947909159043917403409442457288878516759169055680620236387754235369409972),
  (false,1871107102280547590065037923261765627391729441701934941391723968422325914548,2197280331012323570322413448915527766660864684378650497684553118254920260348),
  (false,45090698995977474290632961691477301097024747374015152515190560720018468165568,12254579022675596810231884862276069575540423112673550018377525848277481401878),
  (false,5054797618327281071443738716493596768237980643463800357794684862056619267462,32528688704343641313631911710448027152095479374942741660511292005602282822378),
  (false,3116396207800974126741352651042756943303008617071878591507809562704911510205,51997965663228500457050430249387147003714475761347555819390336249670266088570),
  (false,14055490458127722535889980752338964994832593866234835702288268286656839412260,46226773486422651493508693434203867574287052738705572908570241545752789081928),
  (false,13255665929656146281080449887007641909509999304849491744738638209813853897619,55705207129829464869897097349416518624188726193119147708421062336186161442401),
  (false,34445898214599204196824587830670445739267303633182408050117152659121903233060,43048524062920118298805915568484795959327268000798232147099016825120495085163),
  (true,49932680846730765880533179156762681844729764660303290282431838816456080660122,25436089807757778647346428845003824853559812566485633362966320115826425843867),
  (false,45845635456993680877874570622767193015359724682723034542109229243268624991385,14906051268862452619194289072522337966404639265274421987706965009373385014011),
  (false,50412905269872468201606962024865812625821008958274146366492674513135294034459,41340301024210643977268782884999423105620272384844862766448241307131736671351),
  (true,57287386626394774113138642367524579237642912431093605397008543154920470742987,53034412112453024451555980813444223768796676148163660906444619035861838582367),
  (false,19116843779388832953239487290352966440392542320173648942287117641758470389515,25488289157064646651594096343608121960962033258311311893140349779412757921655),
  (false,18498329282623250392098226507012794913375033583563504655804061550556098950901,41279984179417285780657987301543487999306998951695814509490041373997411205442),
  (false,14621198854137609352185386775297015418456171262585965701722812123582990923450,33937705450845299837390715378349635587930408361541413706760981795318198807960),
  (true,27877563148636166296583294313130482326244455833426469144258226879776221768882,56480669708456234018729618168058262420089375595568892252833829453556394352379),
  (false,7181545153153658992490409873721432091519160302102083578082316776455721205806,30124551327989883748844865177565059155945571811946707080541867253947019832129),
  (true,55660204125881035873450010420822442695295268816026090290732757797478260026784,41953128703760247731795518423853730188813635863000597912660838984699085041553),
  (false,45340448844476955606121183183790380756329997751998089644027756915405812468754,87218061823437062862524815159498314920337631806933426226619702735567148666),
  (false,37847067547736812907613392178316615709320464223749883799397257470128482073281,55635828216023469306926131801644175454036345660854447591928505339137426199365),
  (true,57545990244224688421572221211126488057580714605475232348723459436708012890204,35687759351612237211236719554375743390279023673868451052610253484044299090849),
  (false,25505436711441821349224520623107218615185855420401250367390122961195493794301,10834264678591212176408020173122028602766981354020079086933210599053296751427),
  (true,5951660249397061052838907657352874682530068772392159092747818845053982748366,383492649047447492132876812637389019540975490061146958416779088910438222177),
  (false,39420117311695778002754389671734815539648133358847459765785141429581430649532,57263608508551927592209812425632193522298652320133510630284797669641859026319),
  (true,54957028674345625386292104491866298896631989815821660862623363705384700723356,39280216741068718864247843185427530508037596380663197934973601941874015924352),
  (false,28498209533750886880708622333780873119282470982510598449329597170505239338536,33209755268966469203241440138855714524204106697467375813453458661585326051113),
  (true,47665411179420988199152695816139026835228442965515613043269557029774361999958,40908640816570166830668392336996678150383855343728565389933924782170062846764),
  (false,53011014817224097919821535701825386355148612634680166929673301417710634291120,17822171030124132882905675502759293263064695569656206798606987611841664385142),
  (false,8696358334141002097446952723756445933336158382040018733145859827398848667418,49914493966203379105677895045971336036193560656021944568162311710992010284313),
  (true,20003058431961547951497558378328913927630366611825520932737951555670178101694,41711661583115221338664852699981923362593820736584798088137966721947159977737),
  (false,48361799481732452258310008605251695646839394849197599993193540983467408139089,28850018310685785537724921971788550702123068128843119852870584222088729439683),
  (true,6524136925382497845497990750620719219972309053138269261620455642650257696179,32687756102173419839738327621345076281640632553782164119018581021130387120530),
  (false,19723872438064333015929157217746717740626330217824660321675774613946615010670,21303058035315253966641959758337918704060649694381899939773433418985170655356),
  (true,5700462861304222720211358789181151713673062822807622547646952396858314580476,56311582959803724590613789277351838386338983009212439841190491760668280263837),
  (false,47214667442132870039466560671630717999127855303762461079108938381861003867556,2428761846637101439049808510545357031527352040189891179774799491635762890900),
  (true,12680069865085673657364980716583914121526263284386501750244750949353272907776,29189507275317351527673672757469484306572559378073767741755834378979921331658),
  (false,54816600594738306420286682143143620712680911767461230060916008255668003262777,16209310812522612296589866303659665155382191529397976157135582126063987450639),
  (true,9236868749522475433794884665054858661075400880844910072807125839065565934169,53534573944258633740297998628247868840752349263625163209795551774449998643276),
  (false,32807492278451714518024242747678992964510574890744187687700940251621586338769,40453238950094755533905636755029630710955410361198424601326306779390904129628),
  (false,3173557203866977758930918142168074842609526964066679682373632983669999625528,8954205231232762621913306626095315593824658619748111029230214390750799667638),
  (false,4975281576403062120541725238804772750745349865914664607763268745188977783680,36130638114638380033291301790050328464138816635864625910333182520635167934796),
  (true,4494930324297705238928315781281950089124660224002781989033932708575865903552,19033705974236780840128659864685083296059595886141308798561595460433839772284),
  (false,42736300586347337527673401514686043119112405254552907449394366408818202814323,37415531055014906191276277580949249280505028007338226955517247790858995285108),
  (true,1745966718743928534882433221199639114489728795043925531037180933237776953618,27551202652941532664438277638267618745815767233958923708527360089602785054678),
  (false,6325106324328923875334157443714861701031812246251669767632808791238195422299,37013090868973522862327582104646724282912696314668626334458182903256646562842),
  (true,48274040955167243620615632892235520449680682176662995315326980845032333470994,29349566237275668693845590060395141512822641094558767637846043978629211356274),
  (false,33299318657402391076189670885073565614607611514577447881234553940466351503359,27036001545307066290331638876295109330997141591964008343711275830162213453425),
  (false,21100643038311570825460518721661591154866501983810839492487611895868151017842,6965955738465159294542530618170607979179371982733204655515325933591485603364),
  (true,57587860629326703910348865271655242652316958815152756415581081694806604527534,5956384283592027817810417263546127891376223789932719839086892494800798068047),
  (false,15166065459516624714937921526938291997144197479455259554370747081019562696090,53516782788221748965783119446205476306219340060040153882600850294703229442331),
  (true,16947582654287120705139077674872603070130500593782557302156536283747266056542,32444640192851423343593227593215780685698499572163294396331914729190673298619),
  (false,27565562340830960021300504704140132117450922267726861166191304821153164724818,56587268284476076025326926206139307494756410468266648764991227526919622662842),
  (true,36594509101607685444143145351273771217631668124095778819123196011822457300705,10062317462881503222237389853715870619905910492408973806852928756161359391022),
  (false,24212505518564374803770329768920966332889223972393874900041213620574924429370,821011036284524145049993947379913613933264190969427422587629806035329929263),
  (true,47644912502939530382359701638589880653790537994592361529115457060242217249769,37284250659358192310948175616937262349477083080106127936244343020712085663572),
  (false,16141687387880132514068786843488823486526529975638266225420353395087229188939,51374989975681168649272189396038456273500400051367613109295671102719039749130),
  (false,18274922276918964952578507571894065478826777477480902085797603658111838472277,53383320646283222191225385821786623071157441667112969733967699327836746093139),
  (true,4421209796543816737945832095169827929321829883655335141629864975900701071152,18881394321546789232653723012706754561547162527590205182188611750345511727587),
  (false,37233243637644635886484444231942479829511118969561751824492630132131652594808,35716134568041981073915865194045950335392175990310485314945566560269182124760),
  (false,24096867884023311703676343571826367693095074372676533961657325893634564663022,48840458543553667040747453853382823868399279356356279314183331141507991866416),
  (true,7101013764181857221469411635023371419982929742177865615485145664565034020814,25100303233440515294907358208048928369648285879095887028887101799012100541157),
  (false,53408905309115804121594073890693190338668643613776928652792734171959268815793,26483783170820254269247772943573845581745577449426428630935316615510250579427),
  (false,11204901660007146097635782991627139458299335402172885422977940875802867618905,36942444326890742571743156249884644698204962760366454599975305440929898478453),
  (false,51048747630529511839803579679101694524274710854628509194748325267846176738410,34785133162986051122207142014404093044404547312893108922996096204964038334053),
  (false,38447436415520228730318655948007036615162944990665611450841878511050912814562,43226023682789180894875564242548572743382562615766922785903075213201218164758),
  (true,36253365327508524168327475278594622190197624296806891398655908051179136010934,38182556675339376168532434969117332378792094434931356290158978755564755239789),
  (false,36470187828176730787690773519897088750218511127693597254697914208494429909451,14289315859350520889735269757835766235125379915083913646700927110445618995880),
  (false,36242719547386367832092709090365289091310188186370592785764569521386442689665,22801451611581524946006030768697689912587225703047036705318993451432822540772),
  (true,17977687200378766520469855506185426433244603964387150153831268803065788620999,23829798240367299117482332870122674492589616894605558674963680955362637185181),
  (false,48043343536172139435196906553186576664235951167462051256955606494226539371365,28074312453822650681200990644777641663801131291702889797533929640980940669016),
  (true,6718121287919759270692202190471620706227207625049064646828695707523574943721,10581737216253995200824244887115323533449877297429941709184113590567564488270),
  (false,21272228237420306519524510949909448175283051436036579507101838866096980217099,13699638219252845177998177070027743899677877202898228156131160510746757635314),
  (true,31422791588605148127480284556997324743049164154876866685716933492750258541693,36833338935696003000431725558863866260308351327193223244017775142391106574013),
  (false,50547723143105343873705362138856521156801824478478595786187059310424494155640,48727162311385565690249055687868181294657450924389329331668217083584726297269),
  (true,45072847051770582852677904397233237900608742669196365493300256298962420134960,3313965178810964140045143880238958989160085499802132147086326439306858510190),
  (false,33164609487726988682635751979433197387281571469612430005465509922041589747683,46058148429821750338458264942922861838899167103652096408274888061081207097702),
  (false,37883734501405162496687231761161735944733767219730337919411773834546124344961,28489712405073648492736526177834487860465506473193375274838680684822891367565),
  (true,52122569193539170509907653839149966985910306175727007350525768166852472709154,49642474924334789352151903836107790837956900622954848004851656057486785850165),
  (false,32520233469089850074396062145445549845446230779983103410803641664622336703620,13236398305289721393420813698022438044469856831616409749656312681143025679211),
  (true,37627931935021761482704569153252389389089808816308089192902312385114312996502,42795954838054511369627665874370894386069809627892147428379503057845542347625),
  (false,9372910703001367764504881945900723668793127580713374801032126535556155951588,47458370499355176847250307961660708075136169068240206536411520530882530713620),
  (true,42486912344109881166137482647792600304169956637962093098215458926868988697928,16586477326572747629164652926135993329397808048155564689111664503700123034858),
  (false,49591747201784275946112184045747094430858561845254385591559863304493539355595,14738411143204505100293040353176933809879947010122064958650536609829833027238),
  (true,25642617154688694782683584096778241258047849052791524465859825264430943054453,11944319465707052963627734564822561830341555968206873257523078761283489919070),
  (false,49626519104615782636461673506839644991766269466049547832608512919430059762862,5497443879606017388126645566956597823844182433267009051391897920469032444321),
  (false,31480752397025564694247816226876651691785264586090852770071192750515267479274,55116015393685266842364943097694836093668791922548169601515429150914097604109),
  (false,29707555633416399197301393273435295307406394544358281180759695095383496277064,44506112060121558473101940915810747367683008126742387616070465765470525891639),
  (true,28011345793104222541411892069606517383511935464533680311720643938952373222920,52704116657848168108849387445173680171518028498198701666310674034085738511176),
  (false,49353785906577151898022427047153101020095498874332043076739115814840327628444,52320361446721183978012038413085851240738767850764734026973844171436026511285),
  (true,51290802721813768416660444149951597393996215275993725630667521719902509409495,35381548807883153399885066021202252524612354858435607086589095409881686197224),
  (false,14910951248545249454087686907326638166962553328327524545672823441378494468261,5421491214895433453294363164902074669642310507112482223999524701382391742533),
  (true,22099117863755106538735530764060004613157866850517076057667690246164956557830,785495364037636087310003685321122387638403543618727422741813996180127394678),
  (false,31026703742185374618485082949821731230709165413863141516654419053735671792272,37241772735327170643246908160350648444781752334006528059498772819509655010622),
  (false,39118270552832779624660189756944654802583303827645786142883129881328360291615,56369328790041725851357775274451092705729152700639970495966246858166523159832),
  (false,27343817540998960862162013541640585396187784652925542086983099250793879578768,43649302063445602409811987528767732391982280180390537625697051690931684796309),
  (true,30554204909796683808099133764424976088249324170489316970666310281790807539802,10117919832648649270147282553060447803121663747516745210900521371290313102025),
  (false,10950113157765468567880379036581688966647656506851898087076985522071645199127,26371577427737249637332322679329188789882387014033670513732553243270610048620),
  (true,36476630206220356812664536890580105726017369562043821218479578882572298256105,32463397277693549799477155252098896379156441205142596837932313448612820694820),
  (false,23439499719140888596059716453684320736473547521337625074624875727317601235927,55487378001520788752909848249088949715837252676707524947615649479631097418743),
  (false,29101740107165328779289898146620948296435339898791707777757327352776143205406,33087688527030325700225304504556825421303992384298990272585372829606877606433),
  (true,35773991173264228330058040176377463597902356043074975501516802543889720080682,27321923990433253382170255787847336983739376902274204720564515684984515071800),
  (false,30388176730912152420367414077002040141107926867141623309896608102819075344778,15742675219236997690172616893011859797038150913669579714319550839750172297309),
  (false,47874622032957938312982104383318577006024427794041316055325789274471186837794,19056198757102973308842849740484068364756409390293038103369998072139031458508),
  (true,5860110492963201981856826760885980745013111881863117920430046883062743275455,40500563407256977558648635231407271141602471220772873576961693089472641954953),
  (false,44513467393311629882219681278549454448452645554949374393926954149795086478912,21564308064597749689501092161846402216840028171023694803145132256262125421042),
  (true,48225605231701453106823918160491809341169977847209719186338761785639688200030,30288425779799683707918205956190588053803212843770298177904220309486244324014),
  (false,18485897695379219479251896618958576321301971785790935937486305432984567540853,5135115013356098684513319122605950125998461865111178353048299996305560522489),
  (false,16339528236496691939590721682649823247685028605055816977317060602486908857975,46912073065785929873180278986697487381563322510766422184469136375330933898906),
  (false,9422300342174524535148235573337221172757009586604872706425046381849786434397,53901441408313695849221648591935008568638912998192699214422862715959583962048),
  (true,32914972624431858797876721902444315681841508241160289231587954857579826506229,737725485047049417543065231757893202303905156444528531050424694599830111533),
  (false,13570168504664276947452866115781809515343961375472577212827339906740801897588,32316583099159130187777584522396779712188715834565581627682555495253243358566),
  (false,31961187902138024331987063265119082511841779020706932216365125386497243608924,51485858820657006325143143247408615096775519400504352977603889057187114012570),
  (true,57079556726555812321218398179692440968416760101177303346808530885432012225165,39485694343387990765806775054015137112882334580391309392671481259694407400002),
  (false,26270273178380303867716622946619189516232811290750045112590069406779274417556,6819201919878899432256775948016138296805239893095651982895950986108398389825),
  (true,46516069351215928195723824531537446578796494241378432717070545182826119238584,2593572258169826836315182778159545680380166261027146287436179586520916660317),
  (false,32080808650729089712689836685165055626969319743689461596394593581647775563400,22322086262095604931589943350594634795260992548807119827695177526400995207186),
  (false,50904227614069973077619089724579555230659690712761492275383683064085126711148,24337072882872450992312182431122328840252124559719762743561524975961913237673),
  (false,34282795379400204901608762835670460043884582036916316514833081028176241702263,24497205706531260742345875906375877421980725255924459479322111501730016531675),
  (false,45207237250579875287010383350935072580776376899334672728075445674857248128957,39496403936422486459992131965206754953856236350836269560288891189196379720652),
  (false,9892520292109483162572564166578499435656583822902843799552226239812497413752,9008749611818964087347399449852483827934081256811672802427903721465208423428),
  (false,26450955390802645953664691021712693689080146882962175223139059409733634075108,7029650407934620676104484191732264441212876711085723728871113250616960456461),
  (false,53225446781400123981637113255338407782598344362863930321378839546324471726739,27503260717915990209811022232029524814432321788172091784122867413129178028382),
  (true,47638900093209241086500703960377163963752889572894534682165132697181666283116,9414796038546579272882302064801099789234076811809801703463649773311016487315),
  (false,52707699458219734912636431914815688423041032854204147085330656849257502128785,52586691772534450039728846841482686455362345716854665075727080296838771706547),
  (false,2673402932148531547107587101725952916967954612901684150676566424992611920626,31655839118409182644619130518795716063027509376645458296855566994938982546265),
  (false,26931898706660821378425676654164295381909143220003310721896831866299589966997,27161039048821407706094934906532111534963157263474457588061893131751394556670),
  (true,6007178557758863974497699739583902112067564387995961943234209455561371622117,48542331631091881365046212303379963747331365514249702488391522452460280112193),
  (false,30379295610005895885873551476443218142662634496355608369107386881925725826212,15711646161003209074385637007322689994056268571472675329254925485257620334900),
  (false,19618558156598118238544061018918908007199299033605490404590045955165031735621,55108462981749255908326986482108205328185594408017535509722063598025571702263),
  (false,1772049106821383432228774107145018979097305770153729527744653108524867992021,28504177405642424407412692300342345308069558964449570503349411535145208144323),
  (true,49042154037322794099334427497096733299310378285418259489083413912747779908133,53866831023813293732834314221503321339224643019687842646564963495742984033470),
  (false,34176151585086268872575892940100855868029275509244201496247284808788520171881,664410718797386863613291445030950771941023795186902931500380433267895438400),
  (true,27691254005517608749097760316010025698746731598567634159107660816925038401567,48096188549525518152463405152899299260784975857470836686159698307190462908230),
  (false,4183424385098056479091527886468513445986396722568748155859335171152264882143,56859640691828592856089311954044441851848874316674061461239559209907989611052),
  (false,16543882880562123313899933023136451188033879104484481943921987163200044858969,26240645358455929895830302924190089779128465020963339268628074434922973607409),
  (false,48354901946900536552788200233915163657251902760056735011531930345400365880798,10379905066273012143075641691220052577901014669586258503183312161873057363892),
  (false,34817962774408924004609728842069097757243237204805353665363852609461556030501,34480212789599307767426641486036494500413052572798616032060881553362380660124),
  (true,24226895374618106659116131195679280819576462891801018587051468913665352423618,10657744473042264316917654138142245039141681680294090143512408778128701078179),
  (false,47127129882912222334612223425190246482250204454372596025710040209991759164515,37207836472573605657027629452996536732768279341854132325361500055974684701242),
  (true,25850291702385039089705815863301593243824270257295058013194416816645428824643,52862340791569726939521175492245091512308466285024913160457364284197473719333),
  (false,47668506025256424057880501778284614458459873968470420885894048734073685034598,22777209261683400770356490794144172479419291288539475263999903657459202638785),
  (false,39203128155213677977345552687042741019723081864488185449160336017169539406297,53429556324878822811492669075039719846484716734628412067323585715668216287328),
  (false,17179928634608776335855279116398590624439681128104293081511127752604250091313,2065434119168113416192914070849982498875745002896447428818405040074261326135),
  (false,41970059443255629436746040121147474181782205244688557244624197442527986126946,2749566447724481074810875257022618188845693891279486039555405916380591399505),
  (true,51692698283830926969327739432498620873191069779333547088749148276845332165653,39825539986436554910525940381600580530878942910780759385059752163392448836256),
  (false,3609047266958342264993655834425064837628322803713904465248745425201916620095,36819707691922247039763420342983000657693468670778352051107521710083395294508),
  (true,10298583590938875153164971391064236052137420539887998460421844841791697024261,39721747537701931533897904886531262321975515991640029014413414299453786492482),
  (false,41624762869133589161707553839250387869259934796874863605569802240756500874970,34359104419271605801232395358121429974130969143944266532131005602166841500771),
  (false,18771153336795610656729609871300248964384786801083351631412664812400623823017,527216025600113533795188917339950037295425176681845975472807790961107518504),
  (true,57291545147455937577630001586804989029099866304158534730175833414665057309549,52947328827721870730609407849680071456032189476974766600300213089895134876974),
  (false,46563948444541997288735240497800228441980342344995145248860956090451607482341,10029233439667061374595826967338523812887179514540457251339864559030767171290),
  (false,33683050213653020648278182468628761847364229033008629272528878908605765257871,37331029606741395365081079808422202610273205539470024307491581876433078389304),
  (false,1290143439815768707560230374421511508363318719548980579159130470153901944962,29925096225485849262161601611834714714444292527669886531649988065020832755901),
  (true,10647496459789907889841911993901846947665068050556686536976710827039461549130,41468085144731360108487144473386467541613981209325428781306989290744839980699),
  (false,33545777270781970816846392840559806609800458560842515073889883007380097530079,38770330194197131230986231004903401676867012024676671413093324368428121063957),
  (false,10249851094992890276461163221183007043252792971195400933895904811896838397872,57379744134713207714001444210530995972202117068904428508159584865550341213869),
  (true,35676768864117116956288014429314487628588473484725353558495975046987171879557,18871604518867651548056898693869455120274890510894453785979109042847284411078),
  (false,4947258978508634401443377430765445144928401367669557285691355574816121444229,21121279374181869361115637925514818365051779124511815966017700697277607915301),
  (true,42776685266588708067526227503599860784731445751316951848994669870455819838933,3834698150254463617327759397064941500725928903016397929928140544581549714898),
  (false,47286174134070855786543341154707284721224923384334543339918546056786543845161,1440202793720337178644104369878532272314368088435659799191261277769424010232),
  (true,35659851890152512044796678277464580590585547479394426467727999487167010446979,57673746985498339841710763531772135533147976006905136807480650877135249691020),
  (false,20332050815655288025906297227560576373010587982413805215759228307698247796721,53922350819820610022582763428601644454111909928749845684575526777602540373518),
  (false,50242507862864045129014291616323898158028095038543557661265311507345511726180,28738936282848908552861297545615226914652032367012226095504241913487766328668),
  (false,47213513768989031318709365191837782997224605700942164799012088457145018428121,24647234324866477227857489006549381762340335359561312152584915517753859285788),
  (true,10780657088011873692095173863374486613782177310246218511429659787704742976020,9960583645259155079940220988912608018877849146799766322875488219803080217478),
  (false,19520993289593675301791621986498411775641279234603098012999461043033004474604,49399524639183804229508180840786175836824236055816958990961529669334933379373),
  (true,52866022374841985227542485789639896387365144822978864966374991526001521859937,42272207255388275542905021813636668585854440978608851353251886416287774516488),
  (false,4551203492515922517329503580567040517420236449880047851609665108631079977147,33914370255970765644914294603488346863090483971190990106199516017054965386083),
  (true,24898072446730875058324464635274744103231412362742814476939893381529870263761,3572356243712331394584431853448279708448240053539060300675007062115761895219),
  (false,28007100554162193911497947825404195673766719981092104748154988957757924298310,1892464663442303264481743150687121542294508656958639699621386618021879303569),
  (true,43726857591729232589671160113458785147323062147537873899967101955184611880434,14654457685681891066229743770206199244034052426290092959431900339011514259484),
  (false,45239298867352071971455422187424767329835932237310608488394325826843554540902,24032635060160304593507287691654709661832266283965059758020181900559423689442),
  (false,48817293213565226808069124748884300379850778142562498499897636027429603761404,30367277722626747756509043029546041452780372217781070443500528112750390987582),
  (true,29150837971814916930324087917526669383155322011530539339262964580447859181202,20886027445211448205564169565203056936974939987073881925517524440748670628303),
  (false,25335157397224064810727546649077329020987306241188701084484325885278230524487,56499352931851677030934307074909205277494527853910966412453122714500355443528),
  (false,33468246251091802277162750893010513158038490179708009519437843300632902611014,19990701531033070754536670780678670244859385900952709280885457965823267921360),
  (true,22447166499508127474527842120993333846123081520558669137059332898312327054959,54265590371628899450116391776266978716474793025414165819494953341467286072549),
  (false,28453374248227000866266897595044367308303262490350169015129684846287635579551,50392920836618097506333891712514152469691514477864711348785880132440819315019),
  (true,1621326940781623262197234775215568553749203287001246320490367674196489544318,32080098788136790842617678490038203060280651919491355901586274469046175576345),
  (false,34384238182073006178069933254488639127672314385114214494712529299097683811614,34251516519615103235380146423070665924645835872818708078242511792528492253171),
  (true,28842322866662695101697430760900425762679659409644402323439306366411147837946,9761178027016640074682791369973620950860201088524020599458394503989755496560),
  (false,37506276807084222626353825328018893399078232438955536360852282380883455200981,2492126853213382445177156677230850023112426627203254834806236867597778582191),
  (false,22847219772423635185681153393094833246866319033157594545808682649676972131368,24427505239755214185516880459940309536382996784490331653087388143460021280905),
  (true,15607491374204947381801637572098982197401030839946607366513930992352658701411,26091167286181408863558197301785676569014798891055641832243596720412745066288),
  (false,8339407891475578256109406314033389688077825897931079265545181224721380128309,14411104097030611677840457467204474875789736621984749864130968427849626073984),
  (false,39264564646777584416147252555802575144227215801683492967450929427167060917054,40065731243285388296861411513965264594756594454614871647746646604496551058896),
  (false,44880989264414195861500069738921222519456978269966649804517089717879672848313,1546339169748125145722901462106044967887532546555657227775867959589051460664),
  (true,18053222263634361305855105219809109573232490017589156119389911819071556298256,1634416155515521967732387716334528856130276468544269853481625711525712847514),
  (false,34144957097517302969900519650324142526391146976073663008844441055809135266959,13477872844461983576805325086849635354223631478547208319393978535174704114081),
  (true,25036327314646752809446091612251300931583514095727444226340371576570197130530,20718649112110971591101687240541283720274203768004015509479259840302106251880),
  (false,48602127682807241686792544930334912770734280407262349510648378981754656774796,14896546008551902507861833581581249897269383101427497819164763597328000121031),
  (true,25452525139586193577814080180147294761845195363170810351692420795700209202037,9955479218950249630024612020081751001364681705065937858489586508707314000519),
  (false,38823202192124254823219545279976819572354035081847699169591199256710391515063,26488032689393992913822052743315664127874533080011939685237019824962035270410),
  (true,29480407674484881991165473992333333532656185409511787335224061812275946374726,8047385049404066477546574034471471023683495617186820188619048946815956201004),
  (false,40723064091278394470160226633226033255871972153633611957575699319485813703775,52428304004418591725394878486448937626966356733106605391415261096087565531150),
  (true,14468465919551656594788940210003176114366628755067019173999132446022708953956,14365702671583615013167551189811344678142067377534549506927962054433563455958),
  (false,33908238402890978490375835200266742769172485184974421439498022467306534363207,11561374258965942087571714298305826102868468939589988506543073232105665007373),
  (false,51807256109180004044237420629385641666284612334529300788108844370624048629136,6703519720479716095729827217348405258395122028821743400690375244702634681232),
  (true,15289731748132165646149198412199763807897871159798043259304613122779778607251,14236063193093128168129286054882270282460430183359107066080112890724734685857),
  (false,50312939540898636350818742489147235214811487820615099797501150463460839580994,55386695404241615358924637345021854539715644425831568808103224120380294194155),
  (true,51872155851566556063538290990191317148460249988409666650861039146474861596918,11802273043629714068065006270029927896359548511386885817262733898970000288062),
  (false,21899774947921560910852297759271069639382909542664740987399982237893057430496,50991681853204441562074798379791702070647292781544839766488688163191875246508),
  (false,42783823269122696939284341094755422415180979639778424813682678720006717057747,46316835694926478169428394003475163141307993866256225615783033603165251855960),
  (true,0,1)]
theorem ord_chain:chainB dQN ordL bxN byN = true:=by decide +kernel
theorem ord_m:chainM ordL 1 = 7237005577332262213973186563042994240857116359379907606001950938285454250989:=by decide +kernel
theorem ctrueB {a b:Bool} (h:cond a b false = true):a = true ∧ b = true:=by
  cases a
  · cases h
  · exact ⟨rfl,h⟩
def Af (g:CP.G) (x y:Nat):Prop:=g.1.1 = fn x ∧ g.1.2 = fn y
theorem fn_negd {n:Nat} (h:n < P25):fn (1 + (P25 - n)) = 1 - fn n:=by
  have e:fn ((1 + (P25 - n)) + n) = fn 1:=fn_eq.2 (by rw [show 1 + (P25 - n) + n = 1 + P25 by omega,Nat.add_mod_right])
  rw [fn_add,fn_one] at e
  grind (splits:=0) -lia -linarith
theorem dlN_fn (x1 y1 x2 y2:Nat):fn (dlN dQN x1 y1 x2 y2) = CP.d * fn x1 * fn y1 * fn x2 * fn y2:=by
  unfold dlN
  rw [fn_mod,fn_mul,fn_mod,fn_mul,fn_mod,fn_mul,fn_mod,fn_mul]; rfl
theorem Af_step {g h:CP.G} {x1 y1 x2 y2 x3 y3:Nat} (hg:Af g x1 y1) (hh:Af h x2 y2) (hs:stepB dQN x1 y1 x2 y2 x3 y3 (dlN dQN x1 y1 x2 y2) = true):Af (CP.add g h) x3 y3:=by
  obtain ⟨g1,g2⟩:=hg
  obtain ⟨h1,h2⟩:=hh
  unfold stepB at hs
  rw [Bool.and_eq_true] at hs
  have e1:=fn_eq.2 (Nat.eq_of_beq_eq_true hs.1)
  have e2:=fn_eq.2 (Nat.eq_of_beq_eq_true hs.2)
  have hlt:dlN dQN x1 y1 x2 y2 < P25:=Nat.mod_lt _ QP_pos
  rw [fn_mul,fn_add,fn_add,fn_mul,fn_mul,dlN_fn,fn_one,← g1,← g2,← h1,← h2] at e1
  rw [fn_mul,fn_negd hlt,fn_add,fn_mul,fn_mul,dlN_fn,← g1,← g2,← h1,← h2] at e2
  have:=CP.ad_eq (R:=(fn x3,fn y3)) g.2 h.2 e1 e2
  exact ⟨congrArg Prod.fst this,congrArg Prod.snd this⟩
theorem chain_ok {B:CP.G} (hB:Af B bxN byN):∀ (l:List (Bool × Nat × Nat)) (x y m:Nat),Af (CP.nsm m B) x y→chainB dQN l x y = true→CP.nsm (chainM l m) B = CP.zero:=by
  intro l
  induction l with
  | nil =>
    intro x y m h hc
    unfold chainB at hc
    rw [Bool.and_eq_true] at hc
    have e1:=fn_eq.2 ((Nat.eq_of_beq_eq_true hc.1).trans (Nat.zero_mod _).symm)
    have e2:=fn_eq.2 ((Nat.eq_of_beq_eq_true hc.2).trans (show 1 = 1 % P25 by decide))
    exact Subtype.ext (Prod.ext (h.1.trans (e1.trans fn_zero)) (h.2.trans e2))
  | cons p r ih =>
    obtain ⟨b,u,v⟩:=p
    intro x y m h hc
    cases b with
    | false =>
      unfold chainB at hc
      obtain ⟨h1,h2⟩:=ctrueB hc
      unfold chainM
      refine ih u v (m + m) ?_ h2
      rw [CP.nsm_add]
      exact Af_step h h h1
    | true =>
      unfold chainB at hc
      obtain ⟨h1,h2⟩:=ctrueB hc
      unfold chainM
      refine ih u v (m + 1) ?_ h2
      exact Af_step h hB h1
theorem ord_zero {B:CP.G} (hB:Af B bxN byN):CP.nsm 7237005577332262213973186563042994240857116359379907606001950938285454250989 B = CP.zero:=by
  have:=chain_ok hB ordL bxN byN 1 (by rw [CP.nsm_one]; exact hB) ord_chain
  rwa [ord_m] at this
end Go.Eng
