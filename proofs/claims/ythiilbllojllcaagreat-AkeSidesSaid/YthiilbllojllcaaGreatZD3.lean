import Derived.Test.YthiilbllojllcaaGreatZD2
namespace Go.Eng
open Go Go.Proofs
set_option linter.all false
set_option maxRecDepth 4000
theorem aCg (z:Nat):fn (Dd z)=NS (fn z):=by
 rw [V2 bJT];unfold NS;rw [bR];exact nT.2 (lO (mY _ _).symm _)
theorem aFp {r:RP} {g:CP.G} (hr:RPT r g):fn (Eg r).1=g.1.1 /\ fn (Eg r).2=g.1.2:=by
 have h:=IP _ hr.z;have e1:fn (Eg r).1=fn r.x*NS (fn r.z):=by
  show fn (r.x*Dd r.z%aK)=_;rw [bR,bI,aCg]
 have e2:fn (Eg r).2=fn r.y*NS (fn r.z):=by
  show fn (r.y*Dd r.z%aK)=_;rw [bR,bI,aCg]
 rw [e1,e2,hr.x,hr.y];generalize fn r.z=z at *;generalize NS z=i at *;constructor <;> grind (splits:=0) -lia -linarith
end Go.Eng
