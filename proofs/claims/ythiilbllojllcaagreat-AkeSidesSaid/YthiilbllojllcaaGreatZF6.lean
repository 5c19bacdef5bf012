import Derived.Test.YthiilbllojllcaaGreatZF5
namespace Go.Eng
open Go Go.Proofs
set_option linter.all false
set_option maxRecDepth 4000
theorem J0 {x:Nat} (h:x < aK):q9 x < aK:=by
 rw [q9];cases Nat.beq (x%2) 1
 ·exact h
 ·exact fG _
theorem aCT (x:Nat):decide (((nb x).length:Int)=0)=Nat.beq x 0:=by
 cases hb:Nat.beq x 0
 ·refine aJ λ h=>?_;have h1:(nb x).length=0:=by omega
  have h2:=uE x;rw [h1] at h2;have:x=0:=by omega
  subst this; cases hb
 ·have:=aT hb;subst this; rfl
end Go.Eng
