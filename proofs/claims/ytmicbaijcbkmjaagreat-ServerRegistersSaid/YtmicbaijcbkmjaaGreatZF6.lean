import Derived.Test.YtmicbaijcbkmjaaGreatZF3
namespace Go.Eng
open Go Go.Proofs
set_option linter.all false
set_option maxRecDepth 4000
set_option maxRecDepth 4000
theorem Gy {x:Nat} (h:x < aJ):oY x < aJ:=by
 rw [oY];cases Nat.beq (x%2) 1
 ·exact h
 ·exact eM _
theorem V5 (x:Nat):decide (((nb x).length:Int)=0)=Nat.beq x 0:=by
 cases hb:Nat.beq x 0
 ·refine aH λ h=>?_;have h1:(nb x).length=0:=by omega
  have h2:=rJ x;rw [h1] at h2;have:x=0:=by omega
  subst this; cases hb
 ·have:=aS hb;subst this; rfl
set_option maxRecDepth 4000
theorem Ms {u v:Fe} (hu:cN u) (hv:cN v):cN (dO u v) :=
 have h3:=aL (aL hv hv) hv
 aL (aL hu h3) (UK (aL hu (aL (aL h3 h3) hv)) (cV 1))
end Go.Eng
