/- Texts of this claim, one behind the other: CuS2, PCt1, PCt2, PCt3, PCt4, PCt5, PCt6. -/
import Derived.KernelRfl
import Derived.RangeFuncLeaves
import Derived.RangeFuncWrites
import Derived.Test.YtkmlepkmhpigeaaZC2
import Derived.Test.YtkmlepkmhpigeaaZC3
import Derived.Test.YtkmlepkmhpigeaaZE6
/- curve: how often a point is taken: its contract. -/
namespace Go.Eng
open Go Go.Proofs
set_option linter.unusedVariables false
set_option linter.unusedSimpArgs false
def rowP (p:Pt):List Int:=[(p.x.a:Int),p.x.b,p.x.c,p.x.d,p.x.e,p.y.a,p.y.b,p.y.c,p.y.d,p.y.e,p.z.a,p.z.b,p.z.c,p.z.d,p.z.e,p.t.a,p.t.b,p.t.c,p.t.d,p.t.e]
end Go.Eng
/- scalar.Bits: the iterator over a scalar's bits, the highest first: its contract. -/
namespace Go.Eng
open Go Go.Proofs Go.RowKit
set_option linter.unusedVariables false
set_option linter.unusedSimpArgs false
set_option maxRecDepth 10000
section
variable {P:Program} {a:Act} {w w':World} {ρ:Plc} {o:Oper} {ops:Array Oper} {rest:List Oper} {Q:Exit→Act→World→Prop} {F:Fence} {n:Nat} {ro:Option Nat}
end
section
variable {P:Program} {a a':Act} {w w':World} {ρ:Plc} {o:Oper} {ops:Array Oper} {rest:List Oper} {Q:Exit→Act→World→Prop} {n:Nat} {ro:Option Nat}
end
end Go.Eng
/- scalar.Bits: the iterator over a scalar's bits, the highest first: its contract. -/
namespace Go.Eng
open Go Go.Proofs Go.RowKit
set_option linter.unusedVariables false
set_option linter.unusedSimpArgs false
set_option maxRecDepth 10000
def HasA (rA:Nat) (a:List Int) (W:World):Prop:=RowAt W rA 0 (TRow.ints .u64 a).cells ∧ rA < W.heap.size
theorem HasA.keep {rA:Nat} {a:List Int} {W W':World} (h:HasA rA a W) (hk:W'.heap[rA]? = W.heap[rA]?) (hs:W.heap.size ≤ W'.heap.size):HasA rA a W' :=
  ⟨fun i v hv => by rw [cell?_keep hk]; exact h.1 i v hv,Nat.lt_of_lt_of_le h.2 hs⟩
section
variable {n:Nat} {Q:Exit→Act→World→Prop} {K:Act→World→Prop} {W:World} {y p v2 v4 v5 v6 v7 v8 v9 v10 v11 v12 v13 v14:Value}
end
end Go.Eng
/- curve.Point.Times: its parts, and what they come to. -/
namespace Go.Eng
open Go Go.Proofs
set_option linter.unusedVariables false
set_option linter.unusedSimpArgs false
noncomputable def tm2:Code:=match codeF f_curve_Point_Times with | .seq _ (.seq _ (.seq x _)) => x | c => c
section
variable (T0:Type) (R0:List AV→Option T0) (f0:T0→List Int) (T1:Type) (R1:List AV→Option T1) (f1:T1→List Int) (T2:Type) (R2:List AV→Option T2) (f2:T2→List Int)
end
end Go.Eng
/- curve.Point.Times: its contract. -/
namespace Go.Eng
open Go Go.Proofs Go.RowKit
set_option linter.unusedVariables false
set_option linter.unusedSimpArgs false
set_option maxRecDepth 10000
section
variable {P:Program} {B:Bs} {w0 w:World} {ρ:Plc} {s:St} {a:Act} {β:Type} {r:β} {g:Cg} {fu:Nat} {n:Nat} {ro:Option Nat} {Q:Exit→Act→World→Prop}
end
section
variable {B:Bs} {w0 W:World} {ρ:Plc} {a:Act} {n l:Nat}
end
end Go.Eng
/- curve.Point.Times: its contract, joined. -/
namespace Go.Eng
open Go Go.Proofs Go.RowKit
set_option linter.unusedVariables false
set_option linter.unusedSimpArgs false
set_option maxRecDepth 10000
section
variable {B:Bs} {w0 W:World} {ρ:Plc} {a:Act} {n l:Nat}
end
end Go.Eng
/- curve.Point.Times: its contract, to its end. -/
namespace Go.Eng
open Go Go.Proofs Go.RowKit
set_option linter.unusedVariables false
set_option linter.unusedSimpArgs false
set_option maxRecDepth 10000
section
variable {B:Bs} {w0 W w:World} {ρ:Plc} {s:St} {a:Act} {n l:Nat}
def Bs.dd (B:Bs) (ds:List Deferred):Bs:=⟨B.n,B.X,B.ext,B.M,ds⟩
theorem Rel.dd (h:Rel B w0 ρ s a W) (d:Deferred):Rel (B.dd (d :: B.ds)) w0 ρ s { a with defers:=d :: a.defers } W :=
  ⟨h.tm,h.blk,h.lt,h.inj,h.base,h.size,by rw [h.df]; rfl,⟨h.below.os,h.below.tape,h.below.output,h.below.size,h.below.block,h.below.shape⟩,h.b0,h.rt,h.rb,h.gh,h.ob,h.ox⟩
end
end Go.Eng
