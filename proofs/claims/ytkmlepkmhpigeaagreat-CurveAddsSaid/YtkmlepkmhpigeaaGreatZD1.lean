/- Texts of this claim, one behind the other: CuD, GCu5, PCd1, PCd2. -/
import Derived.KernelRfl
import Derived.Test.YtkmlepkmhpigeaaGreatEngNums
import Derived.Test.YtkmlepkmhpigeaaGreatZC3
import Derived.Test.YtkmlepkmhpigeaaGreatZF8
import Derived.Test.YtkmlepkmhpigeaaGreatZG1
import Derived.Test.YtkmlepkmhpigeaaGreatZG3
/- The document's points: the contracts. -/
namespace Go.Eng
open Go Go.Proofs
set_option linter.unusedVariables false
set_option linter.unusedSimpArgs false
structure RP where
  x:Nat
  y:Nat
  z:Nat
def eRP (p:RP):AV:=.c (.mix [.dat (.ints .i64 (nb p.x)) (nb p.x).length 1,.dat (.ints .i64 (nb p.y)) (nb p.y).length 1,.dat (.ints .i64 (nb p.z)) (nb p.z).length 1])
def okNP (a:List Int) (n:Nat):Bool:=okN a n && bP (vB a)
def runR1 {T:Type} (F:RP→T):List AV→Option T
  | [.c (.mix [.dat (.ints .i64 a) n 1,.dat (.ints .i64 b) m 1,.dat (.ints .i64 c) k 1])] => cond (okNP a n && (okNP b m && okNP c k)) (some (F ⟨vB a,vB b,vB c⟩)) none
  | _ => none
def runR2N {T:Type} (F:RP→RP→Nat→T):List AV→Option T
  | [.c (.mix [.dat (.ints .i64 a) n 1,.dat (.ints .i64 b) m 1,.dat (.ints .i64 c) k 1]),.c (.mix [.dat (.ints .i64 a') n' 1,.dat (.ints .i64 b') m' 1,.dat (.ints .i64 c') k' 1]),.c (.s (.dat (.ints .i64 d) j 1))] =>
    cond (okNP a n && (okNP b m && okNP c k) && (okNP a' n' && (okNP b' m' && okNP c' k')) && okNP d j) (some (F ⟨vB a,vB b,vB c⟩ ⟨vB a',vB b',vB c'⟩ (vB d))) none
  | _ => none
def runRNN {T:Type} (F:RP→Nat→Nat→T) (C:Nat→Bool):List AV→Option T
  | [.c (.mix [.dat (.ints .i64 a) n 1,.dat (.ints .i64 b) m 1,.dat (.ints .i64 c) k 1]),.c (.s (.dat (.ints .i64 e) i 1)),.c (.s (.dat (.ints .i64 d) j 1))] =>
    cond (okNP a n && (okNP b m && okNP c k) && (okN e i && C (vB e)) && okNP d j) (some (F ⟨vB a,vB b,vB c⟩ (vB e) (vB d))) none
  | _ => none
def addR (p q:RP) (d:Nat):RP :=
  ⟨p.z * q.z % P25 * ((p.z * q.z % P25 * (p.z * q.z % P25) % P25 + P25 - d * (p.x * q.x % P25 * (p.y * q.y % P25) % P25) % P25) % P25) % P25 * ((p.x * q.y % P25 + p.y * q.x % P25) % P25) % P25,
   p.z * q.z % P25 * ((p.z * q.z % P25 * (p.z * q.z % P25) % P25 + d * (p.x * q.x % P25 * (p.y * q.y % P25) % P25) % P25) % P25) % P25 * ((p.y * q.y % P25 + p.x * q.x % P25) % P25) % P25,
   (p.z * q.z % P25 * (p.z * q.z % P25) % P25 + P25 - d * (p.x * q.x % P25 * (p.y * q.y % P25) % P25) % P25) % P25 * ((p.z * q.z % P25 * (p.z * q.z % P25) % P25 + d * (p.x * q.x % P25 * (p.y * q.y % P25) % P25) % P25) % P25) % P25⟩
def sRAddP:Summ:={ T:=RP,run:=runR2N addR,enc:=eRP }
def rRAddP:List AV→Option RP:=sRAddP.run
def neutR:RP:=⟨0,1,1⟩
def sRNeut:Summ:={ T:=RP,run:=run0 neutR,enc:=eRP }
def rRNeut:List AV→Option RP:=sRNeut.run
def stepR (p:RP) (d:Nat) (c:RP) (b:Bool):RP:=cond b (addR (addR c c d) p d) (addR c c d)
def timesR (p:RP) (n d:Nat):RP:=(bitsDn n (bl n)).foldl (stepR p d) neutR
def sRTimes:Summ:={ T:=RP,run:=runRNN timesR fun n => Nat.blt n M512',enc:=eRP }
def rRTimes:List AV→Option RP:=sRTimes.run
def plR (p:RP):Nat × Nat:=(p.x * (p.z ^ (P25 - 2) % P25) % P25,p.y * (p.z ^ (P25 - 2) % P25) % P25)
def eNN (t:Nat × Nat):AV:=.tup [.s (.dat (.ints .i64 (nb t.1)) (nb t.1).length 1),.s (.dat (.ints .i64 (nb t.2)) (nb t.2).length 1)]
def sRPlain:Summ:={ T:=Nat × Nat,run:=runR1 plR,enc:=eNN }
def rRPlain:List AV→Option (Nat × Nat):=sRPlain.run
def baseR:RP:=⟨15112221349535400772501151409588531511454012693041857206046113283949847762202,46316835694926478169428394003475163141307993866256225615783033603165251855960,1⟩
def sRBase:Summ where
  T:=Unit
  run:=fun
    | [.c (.s (.dat (.ints .i64 a) n 1))] => cond (okN a n && Nat.beq (vB a) 37095705934669439343138083508754565189542113879843219016388785533085940283555) (some ()) none
    | _ => none
  enc:=fun _ => eRP baseR
def rRBase:List AV→Option Unit:=sRBase.run
def isR (p:Pt) (r:RP):Bool :=
  decide (0 < (nb (fv p.z % P25)).length) && (Nat.beq (fv p.x % P25 * r.z % P25) (r.x * (fv p.z % P25) % P25) && (Nat.beq (fv p.y % P25 * r.z % P25) (r.y * (fv p.z % P25) % P25) && samF (mulF p.x p.y) (mulF p.z p.t)))
def sIsP:Summ where
  T:=Bool
  run:=fun
    | [.c (.s (.pl (.agg (.ints .u64 [a,b,c,d,e,f,g,h,i,j,k,l,m,n,o,p,q,r,s,t]) 20))),.c (.mix [.dat (.ints .i64 a') n' 1,.dat (.ints .i64 b') m' 1,.dat (.ints .i64 c') k' 1])] =>
      cond (inF a b c d e && (inF f g h i j && (inF k l m n o && inF p q r s t)) && (okNP a' n' && (okNP b' m' && okNP c' k'))) (some (isR ⟨toF a b c d e,toF f g h i j,toF k l m n o,toF p q r s t⟩ ⟨vB a',vB b',vB c'⟩)) none
    | _ => none
  enc:=fun t => .bool t
def rIsP:List AV→Option Bool:=sIsP.run
def ePF (p:Pt):AV:=.tup [.s (.pl (.agg (.ints .u64 [(p.x.a:Int),p.x.b,p.x.c,p.x.d,p.x.e]) 5)),.s (.pl (.agg (.ints .u64 [(p.y.a:Int),p.y.b,p.y.c,p.y.d,p.y.e]) 5)),.s (.pl (.agg (.ints .u64 [(p.z.a:Int),p.z.b,p.z.c,p.z.d,p.z.e]) 5)),.s (.pl (.agg (.ints .u64 [(p.t.a:Int),p.t.b,p.t.c,p.t.d,p.t.e]) 5))]
def sParts:Summ:={ T:=Pt,run:=runP1 fun p => p,enc:=ePF }
def rParts:List AV→Option Pt:=sParts.run
def sCOf:Summ:={ T:=Pt,run:=runF4 fun x y z t => ⟨x,y,z,t⟩,enc:=eP }
def rCOf:List AV→Option Pt:=sCOf.run
end Go.Eng
/- GENERATED by gen.py: what the evaluator comes to at these functions. -/
namespace Go.Eng
open Go Go.Proofs
set_option linter.unusedVariables false
set_option linter.unusedSimpArgs false
noncomputable def g_DPa:Cg:=⟨⟨gam [],[],noE⟩,[]⟩
theorem DPa_ev (fu:Nat) (a b c d e f g h i j k l m n o p q r s t:Int):afunc prog f_curve_Point_Parts g_DPa fu [AV.agg (TRow.ints IntKind.u64 [a,b,c,d,e,f,g,h,i,j,k,l,m,n,o,p,q,r,s,t]) (20:Nat)] = some (AV.tup [CV.s (SV.pl (Pl.agg (TRow.ints IntKind.u64 (List.take (5:Nat) (List.drop (0:Nat) [a,b,c,d,e,f,g,h,i,j,k,l,m,n,o,p,q,r,s,t]))) (5:Nat))),CV.s (SV.pl (Pl.agg (TRow.ints IntKind.u64 (List.take (5:Nat) (List.drop (5:Nat) [a,b,c,d,e,f,g,h,i,j,k,l,m,n,o,p,q,r,s,t]))) (5:Nat))),CV.s (SV.pl (Pl.agg (TRow.ints IntKind.u64 (List.take (5:Nat) (List.drop (10:Nat) [a,b,c,d,e,f,g,h,i,j,k,l,m,n,o,p,q,r,s,t]))) (5:Nat))),CV.s (SV.pl (Pl.agg (TRow.ints IntKind.u64 (List.take (5:Nat) (List.drop (15:Nat) [a,b,c,d,e,f,g,h,i,j,k,l,m,n,o,p,q,r,s,t]))) (5:Nat)))]):=by kernel_rfl
noncomputable def g_DOf:Cg:=⟨⟨gam [],[],noE⟩,[]⟩
theorem DOf_ev (fu:Nat) (a b c d e f g h i j k l m n o p q r s t:Int):afunc prog f_curve_Of g_DOf fu [AV.agg (TRow.ints IntKind.u64 [a,b,c,d,e]) (5:Nat),AV.agg (TRow.ints IntKind.u64 [f,g,h,i,j]) (5:Nat),AV.agg (TRow.ints IntKind.u64 [k,l,m,n,o]) (5:Nat),AV.agg (TRow.ints IntKind.u64 [p,q,r,s,t]) (5:Nat)] = some (AV.agg (TRow.ints IntKind.u64 ([a,b,c,d,e] ++ ([f,g,h,i,j] ++ ([k,l,m,n,o] ++ [p,q,r,s,t])))) (20:Nat)):=by kernel_rfl
noncomputable def g_DNe:Cg:=⟨⟨gam [],[],noE⟩,[]⟩
theorem DNe_ev (fu:Nat):afunc prog f_opalineref07_Neutral g_DNe fu [] = some (AV.c (CV.mix [SV.pl (Pl.raw (Value.slice none (0:Nat) (0:Nat))),SV.dat (TRow.ints IntKind.i64 [(1:Int)]) (1:Nat) (1:Nat),SV.dat (TRow.ints IntKind.i64 [(1:Int)]) (1:Nat) (1:Nat)])):=by kernel_rfl
noncomputable def g_DAd (T0:Type) (R0:List AV→Option T0) (f0a:T0→List Int) (f0b:T0→Nat) (T1:Type) (R1:List AV→Option T1) (f1a:T1→List Int) (f1b:T1→Nat) (T2:Type) (R2:List AV→Option T2) (f2a:T2→List Int) (f2b:T2→Nat):Cg:=⟨⟨gam [(n_opalineref05_Mul,⟨R0,fun t => AV.s (SV.dat (TRow.ints IntKind.i64 (f0a t)) (f0b t) 1)⟩),(n_opalineref05_Sub,⟨R1,fun t => AV.s (SV.dat (TRow.ints IntKind.i64 (f1a t)) (f1b t) 1)⟩),(n_opalineref05_Add,⟨R2,fun t => AV.s (SV.dat (TRow.ints IntKind.i64 (f2a t)) (f2b t) 1)⟩)],[],noE⟩,[]⟩
section
variable (T0:Type) (R0:List AV→Option T0) (f0a:T0→List Int) (f0b:T0→Nat) (T1:Type) (R1:List AV→Option T1) (f1a:T1→List Int) (f1b:T1→Nat) (T2:Type) (R2:List AV→Option T2) (f2a:T2→List Int) (f2b:T2→Nat)
theorem DAd_ev (fu:Nat) (p q:RP) (d:Nat):afunc prog f_opalineref07_Add (g_DAd T0 R0 f0a f0b T1 R1 f1a f1b T2 R2 f2a f2b) fu [eRP p,eRP q,eN d] = (R0 [AV.s (SV.dat (TRow.ints IntKind.i64 (nb p.z)) (nb p.z).length (1:Nat)),AV.s (SV.dat (TRow.ints IntKind.i64 (nb q.z)) (nb q.z).length (1:Nat))]).bind fun (t:T0) => (R0 [AV.s (SV.dat (TRow.ints IntKind.i64 (f0a t)) (f0b t) (1:Nat)),AV.s (SV.dat (TRow.ints IntKind.i64 (f0a t)) (f0b t) (1:Nat))]).bind fun (t_1:T0) => (R0 [AV.s (SV.dat (TRow.ints IntKind.i64 (nb p.x)) (nb p.x).length (1:Nat)),AV.s (SV.dat (TRow.ints IntKind.i64 (nb q.x)) (nb q.x).length (1:Nat))]).bind fun (t_2:T0) => (R0 [AV.s (SV.dat (TRow.ints IntKind.i64 (nb p.y)) (nb p.y).length (1:Nat)),AV.s (SV.dat (TRow.ints IntKind.i64 (nb q.y)) (nb q.y).length (1:Nat))]).bind fun (t_3:T0) => (R0 [AV.s (SV.dat (TRow.ints IntKind.i64 (f0a t_2)) (f0b t_2) (1:Nat)),AV.s (SV.dat (TRow.ints IntKind.i64 (f0a t_3)) (f0b t_3) (1:Nat))]).bind fun (t_4:T0) => (R0 [AV.s (SV.dat (TRow.ints IntKind.i64 (nb d)) (nb d).length (1:Nat)),AV.s (SV.dat (TRow.ints IntKind.i64 (f0a t_4)) (f0b t_4) (1:Nat))]).bind fun (t_5:T0) => (R1 [AV.s (SV.dat (TRow.ints IntKind.i64 (f0a t_1)) (f0b t_1) (1:Nat)),AV.s (SV.dat (TRow.ints IntKind.i64 (f0a t_5)) (f0b t_5) (1:Nat))]).bind fun (t_6:T1) => (R2 [AV.s (SV.dat (TRow.ints IntKind.i64 (f0a t_1)) (f0b t_1) (1:Nat)),AV.s (SV.dat (TRow.ints IntKind.i64 (f0a t_5)) (f0b t_5) (1:Nat))]).bind fun (t_7:T2) => (R0 [AV.s (SV.dat (TRow.ints IntKind.i64 (f0a t)) (f0b t) (1:Nat)),AV.s (SV.dat (TRow.ints IntKind.i64 (f1a t_6)) (f1b t_6) (1:Nat))]).bind fun (t_8:T0) => (R0 [AV.s (SV.dat (TRow.ints IntKind.i64 (nb p.x)) (nb p.x).length (1:Nat)),AV.s (SV.dat (TRow.ints IntKind.i64 (nb q.y)) (nb q.y).length (1:Nat))]).bind fun (t_9:T0) => (R0 [AV.s (SV.dat (TRow.ints IntKind.i64 (nb p.y)) (nb p.y).length (1:Nat)),AV.s (SV.dat (TRow.ints IntKind.i64 (nb q.x)) (nb q.x).length (1:Nat))]).bind fun (t_10:T0) => (R2 [AV.s (SV.dat (TRow.ints IntKind.i64 (f0a t_9)) (f0b t_9) (1:Nat)),AV.s (SV.dat (TRow.ints IntKind.i64 (f0a t_10)) (f0b t_10) (1:Nat))]).bind fun (t_11:T2) => (R0 [AV.s (SV.dat (TRow.ints IntKind.i64 (f0a t_8)) (f0b t_8) (1:Nat)),AV.s (SV.dat (TRow.ints IntKind.i64 (f2a t_11)) (f2b t_11) (1:Nat))]).bind fun (t_12:T0) => (R0 [AV.s (SV.dat (TRow.ints IntKind.i64 (f0a t)) (f0b t) (1:Nat)),AV.s (SV.dat (TRow.ints IntKind.i64 (f2a t_7)) (f2b t_7) (1:Nat))]).bind fun (t:T0) => (R2 [AV.s (SV.dat (TRow.ints IntKind.i64 (f0a t_3)) (f0b t_3) (1:Nat)),AV.s (SV.dat (TRow.ints IntKind.i64 (f0a t_2)) (f0b t_2) (1:Nat))]).bind fun (t_13:T2) => (R0 [AV.s (SV.dat (TRow.ints IntKind.i64 (f0a t)) (f0b t) (1:Nat)),AV.s (SV.dat (TRow.ints IntKind.i64 (f2a t_13)) (f2b t_13) (1:Nat))]).bind fun (t:T0) => (R0 [AV.s (SV.dat (TRow.ints IntKind.i64 (f1a t_6)) (f1b t_6) (1:Nat)),AV.s (SV.dat (TRow.ints IntKind.i64 (f2a t_7)) (f2b t_7) (1:Nat))]).bind fun (t_14:T0) => some (AV.c (CV.mix [SV.dat (TRow.ints IntKind.i64 (f0a t_12)) (f0b t_12) (1:Nat),SV.dat (TRow.ints IntKind.i64 (f0a t)) (f0b t) (1:Nat),SV.dat (TRow.ints IntKind.i64 (f0a t_14)) (f0b t_14) (1:Nat)])):=by kernel_rfl
end
noncomputable def g_DTi (T0:Type) (R0:List AV→Option T0) (f0a:T0→List Int) (f0b:T0→Nat) (f0c:T0→List Int) (f0d:T0→Nat) (f0e:T0→List Int) (f0f:T0→Nat) (T1:Type) (R1:List AV→Option T1) (f1a:T1→Int) (T2:Type) (R2:List AV→Option T2) (f2a:T2→List Int) (f2b:T2→Nat) (f2c:T2→List Int) (f2d:T2→Nat) (f2e:T2→List Int) (f2f:T2→Nat) (T3:Type) (R3:List AV→Option T3) (f3a:T3→Int):Cg:=⟨⟨gam [(n_opalineref07_Neutral,⟨R0,fun t => AV.c (CV.mix [SV.dat (TRow.ints IntKind.i64 (f0a t)) (f0b t) 1,SV.dat (TRow.ints IntKind.i64 (f0c t)) (f0d t) 1,SV.dat (TRow.ints IntKind.i64 (f0e t)) (f0f t) 1])⟩),(n_opalineref01_Len,⟨R1,fun t => AV.int IntKind.i64 (f1a t)⟩),(n_opalineref07_Add,⟨R2,fun t => AV.c (CV.mix [SV.dat (TRow.ints IntKind.i64 (f2a t)) (f2b t) 1,SV.dat (TRow.ints IntKind.i64 (f2c t)) (f2d t) 1,SV.dat (TRow.ints IntKind.i64 (f2e t)) (f2f t) 1])⟩),(n_opalineref01_Bit,⟨R3,fun t => AV.int IntKind.i64 (f3a t)⟩)],[],noE⟩,[(4,[1,2,3,6,7,8],[6,7])]⟩
section
variable (T0:Type) (R0:List AV→Option T0) (f0a:T0→List Int) (f0b:T0→Nat) (f0c:T0→List Int) (f0d:T0→Nat) (f0e:T0→List Int) (f0f:T0→Nat) (T1:Type) (R1:List AV→Option T1) (f1a:T1→Int) (T2:Type) (R2:List AV→Option T2) (f2a:T2→List Int) (f2b:T2→Nat) (f2c:T2→List Int) (f2d:T2→Nat) (f2e:T2→List Int) (f2f:T2→Nat) (T3:Type) (R3:List AV→Option T3) (f3a:T3→Int)
noncomputable def DTi_s1 (x1:List Int) (n1:Nat) (x2:List Int) (n2:Nat) (v8:Int) (x_0_0:List Int) (n_0_0:Nat) (x_0_1:List Int) (n_0_1:Nat) (x_0_2:List Int) (n_0_2:Nat) (x_2_0:List Int) (n_2_0:Nat) (x_2_1:List Int) (n_2_1:Nat) (x_2_2:List Int) (n_2_2:Nat):St:={ tm:=[((1:Nat),AV.s (SV.dat (TRow.ints IntKind.i64 x1) n1 (1:Nat))),((2:Nat),AV.s (SV.dat (TRow.ints IntKind.i64 x2) n2 (1:Nat))),((3:Nat),AV.s (SV.ptr (0:Nat) (0:Nat) (3:Nat))),((6:Nat),AV.s (SV.ptr (1:Nat) (0:Nat) (3:Nat))),((7:Nat),AV.s (SV.ptr (2:Nat) (0:Nat) (3:Nat))),((8:Nat),AV.int IntKind.i64 v8)],hp:=[((0:Nat),{ ty:=(41:Nat),n:=(3:Nat),row:=Row.mix [SV.dat (TRow.ints IntKind.i64 x_0_0) n_0_0 (1:Nat),SV.dat (TRow.ints IntKind.i64 x_0_1) n_0_1 (1:Nat),SV.dat (TRow.ints IntKind.i64 x_0_2) n_0_2 (1:Nat)] }),((1:Nat),{ ty:=(41:Nat),n:=(3:Nat),row:=Row.mix [SV.pl (Pl.raw (Value.slice none (0:Nat) (0:Nat))),SV.pl (Pl.raw (Value.slice none (0:Nat) (0:Nat))),SV.pl (Pl.raw (Value.slice none (0:Nat) (0:Nat)))] }),((2:Nat),{ ty:=(41:Nat),n:=(3:Nat),row:=Row.mix [SV.dat (TRow.ints IntKind.i64 x_2_0) n_2_0 (1:Nat),SV.dat (TRow.ints IntKind.i64 x_2_1) n_2_1 (1:Nat),SV.dat (TRow.ints IntKind.i64 x_2_2) n_2_2 (1:Nat)] })],nx:=(3:Nat),sz:=(30:Nat) }
noncomputable def DTi_b1:Code:=bodyL (codeAt [1,1,0,1,2] (codeF f_opalineref07_Times))
noncomputable def DTi_k1 (fu:Nat):=kAt prog (g_DTi T0 R0 f0a f0b f0c f0d f0e f0f T1 R1 f1a T2 R2 f2a f2b f2c f2d f2e f2f T3 R3 f3a) fu [1,1,0,1,2] (codeF f_opalineref07_Times) (kFin prog f_opalineref07_Times)
noncomputable abbrev DTi_L1 (fu:Nat) (x1:List Int) (n1:Nat) (x2:List Int) (n2:Nat) (v8:Int) (x_0_0:List Int) (n_0_0:Nat) (x_0_1:List Int) (n_0_1:Nat) (x_0_2:List Int) (n_0_2:Nat) (x_2_0:List Int) (n_2_0:Nat) (x_2_1:List Int) (n_2_1:Nat) (x_2_2:List Int) (n_2_2:Nat):=lpA prog (g_DTi T0 R0 f0a f0b f0c f0d f0e f0f T1 R1 f1a T2 R2 f2a f2b f2c f2d f2e f2f T3 R3 f3a) fu DTi_b1 (DTi_k1 T0 R0 f0a f0b f0c f0d f0e f0f T1 R1 f1a T2 R2 f2a f2b f2c f2d f2e f2f T3 R3 f3a fu ) fu (some (DTi_s1 x1 n1 x2 n2 v8 x_0_0 n_0_0 x_0_1 n_0_1 x_0_2 n_0_2 x_2_0 n_2_0 x_2_1 n_2_1 x_2_2 n_2_2))
theorem DTi_ev (fu:Nat) (p:RP) (n d:Nat):afunc prog f_opalineref07_Times (g_DTi T0 R0 f0a f0b f0c f0d f0e f0f T1 R1 f1a T2 R2 f2a f2b f2c f2d f2e f2f T3 R3 f3a) fu [eRP p,eN n,eN d] = (R0 []).bind fun (t:T0) => (R1 [AV.s (SV.dat (TRow.ints IntKind.i64 (nb n)) (nb n).length (1:Nat))]).bind fun (t_1:T1) => DTi_L1 T0 R0 f0a f0b f0c f0d f0e f0f T1 R1 f1a T2 R2 f2a f2b f2c f2d f2e f2f T3 R3 f3a fu (nb n) (nb n).length (nb d) (nb d).length (IntKind.i64.wrap (f1a t_1 - (1:Int))) (nb p.x) (nb p.x).length (nb p.y) (nb p.y).length (nb p.z) (nb p.z).length (f0a t) (f0b t) (f0c t) (f0d t) (f0e t) (f0f t):=by kernel_rfl
noncomputable def DTi_o1e0 (x_1_0:List Int) (n_1_0:Nat) (x_1_1:List Int) (n_1_1:Nat) (x_1_2:List Int) (n_1_2:Nat):St:={ tm:=[((6:Nat),AV.s (SV.ptr (0:Nat) (0:Nat) (3:Nat))),((7:Nat),AV.s (SV.ptr (1:Nat) (0:Nat) (3:Nat)))],hp:=[((0:Nat),{ ty:=(41:Nat),n:=(3:Nat),row:=Row.mix [SV.pl (Pl.raw (Value.slice none (0:Nat) (0:Nat))),SV.pl (Pl.raw (Value.slice none (0:Nat) (0:Nat))),SV.pl (Pl.raw (Value.slice none (0:Nat) (0:Nat)))] }),((1:Nat),{ ty:=(41:Nat),n:=(3:Nat),row:=Row.mix [SV.dat (TRow.ints IntKind.i64 x_1_0) n_1_0 (1:Nat),SV.dat (TRow.ints IntKind.i64 x_1_1) n_1_1 (1:Nat),SV.dat (TRow.ints IntKind.i64 x_1_2) n_1_2 (1:Nat)] })],nx:=(2:Nat),sz:=(30:Nat) }
theorem DTi_r1 {β:Type} (fu:Nat) (G:Option St→Option β) (H:Ex→Option St→Option β) (x1:List Int) (n1:Nat) (x2:List Int) (n2:Nat) (v8:Int) (x_0_0:List Int) (n_0_0:Nat) (x_0_1:List Int) (n_0_1:Nat) (x_0_2:List Int) (n_0_2:Nat) (x_2_0:List Int) (n_2_0:Nat) (x_2_1:List Int) (n_2_1:Nat) (x_2_2:List Int) (n_2_2:Nat):lpR prog (g_DTi T0 R0 f0a f0b f0c f0d f0e f0f T1 R1 f1a T2 R2 f2a f2b f2c f2d f2e f2f T3 R3 f3a) fu DTi_b1 G H (DTi_s1 x1 n1 x2 n2 v8 x_0_0 n_0_0 x_0_1 n_0_1 x_0_2 n_0_2 x_2_0 n_2_0 x_2_1 n_2_1 x_2_2 n_2_2) = bif decide ((0:Int) ≤ v8) then (R2 [AV.c (CV.mix [SV.dat (TRow.ints IntKind.i64 x_2_0) n_2_0 (1:Nat),SV.dat (TRow.ints IntKind.i64 x_2_1) n_2_1 (1:Nat),SV.dat (TRow.ints IntKind.i64 x_2_2) n_2_2 (1:Nat)]),AV.c (CV.mix [SV.dat (TRow.ints IntKind.i64 x_2_0) n_2_0 (1:Nat),SV.dat (TRow.ints IntKind.i64 x_2_1) n_2_1 (1:Nat),SV.dat (TRow.ints IntKind.i64 x_2_2) n_2_2 (1:Nat)]),AV.s (SV.dat (TRow.ints IntKind.i64 x2) n2 (1:Nat))]).bind fun (t:T2) => (R3 [AV.s (SV.dat (TRow.ints IntKind.i64 x1) n1 (1:Nat)),AV.int IntKind.i64 v8]).bind fun (t_1:T3) => bif decide (f3a t_1 = (1:Int)) then (R2 [AV.c (CV.mix [SV.dat (TRow.ints IntKind.i64 (f2a t)) (f2b t) (1:Nat),SV.dat (TRow.ints IntKind.i64 (f2c t)) (f2d t) (1:Nat),SV.dat (TRow.ints IntKind.i64 (f2e t)) (f2f t) (1:Nat)]),AV.c (CV.mix [SV.dat (TRow.ints IntKind.i64 x_0_0) n_0_0 (1:Nat),SV.dat (TRow.ints IntKind.i64 x_0_1) n_0_1 (1:Nat),SV.dat (TRow.ints IntKind.i64 x_0_2) n_0_2 (1:Nat)]),AV.s (SV.dat (TRow.ints IntKind.i64 x2) n2 (1:Nat))]).bind fun (t:T2) => G (some (DTi_s1 x1 n1 x2 n2 (IntKind.i64.wrap (v8 - (1:Int))) x_0_0 n_0_0 x_0_1 n_0_1 x_0_2 n_0_2 (f2a t) (f2b t) (f2c t) (f2d t) (f2e t) (f2f t))) else G (some (DTi_s1 x1 n1 x2 n2 (IntKind.i64.wrap (v8 - (1:Int))) x_0_0 n_0_0 x_0_1 n_0_1 x_0_2 n_0_2 (f2a t) (f2b t) (f2c t) (f2d t) (f2e t) (f2f t))) else H (Ex.exit (0:Nat)) (some (DTi_o1e0 x_2_0 n_2_0 x_2_1 n_2_1 x_2_2 n_2_2)):=by kernel_rfl
theorem DTi_c1e0 (fu:Nat) (x_1_0:List Int) (n_1_0:Nat) (x_1_1:List Int) (n_1_1:Nat) (x_1_2:List Int) (n_1_2:Nat):DTi_k1 T0 R0 f0a f0b f0c f0d f0e f0f T1 R1 f1a T2 R2 f2a f2b f2c f2d f2e f2f T3 R3 f3a fu  (Ex.exit 0) (DTi_o1e0 x_1_0 n_1_0 x_1_1 n_1_1 x_1_2 n_1_2) = some (AV.c (CV.mix [SV.dat (TRow.ints IntKind.i64 x_1_0) n_1_0 (1:Nat),SV.dat (TRow.ints IntKind.i64 x_1_1) n_1_1 (1:Nat),SV.dat (TRow.ints IntKind.i64 x_1_2) n_1_2 (1:Nat)])):=by kernel_rfl
end
noncomputable def g_DPl (T0:Type) (R0:List AV→Option T0) (f0a:T0→List Int) (f0b:T0→Nat) (T1:Type) (R1:List AV→Option T1) (f1a:T1→List Int) (f1b:T1→Nat):Cg:=⟨⟨gam [(n_opalineref05_Inv,⟨R0,fun t => AV.s (SV.dat (TRow.ints IntKind.i64 (f0a t)) (f0b t) 1)⟩),(n_opalineref05_Mul,⟨R1,fun t => AV.s (SV.dat (TRow.ints IntKind.i64 (f1a t)) (f1b t) 1)⟩)],[],noE⟩,[]⟩
section
variable (T0:Type) (R0:List AV→Option T0) (f0a:T0→List Int) (f0b:T0→Nat) (T1:Type) (R1:List AV→Option T1) (f1a:T1→List Int) (f1b:T1→Nat)
theorem DPl_ev (fu:Nat) (p:RP):afunc prog f_opalineref07_Plain (g_DPl T0 R0 f0a f0b T1 R1 f1a f1b) fu [eRP p] = (R0 [AV.s (SV.dat (TRow.ints IntKind.i64 (nb p.z)) (nb p.z).length (1:Nat))]).bind fun (t:T0) => (R1 [AV.s (SV.dat (TRow.ints IntKind.i64 (nb p.x)) (nb p.x).length (1:Nat)),AV.s (SV.dat (TRow.ints IntKind.i64 (f0a t)) (f0b t) (1:Nat))]).bind fun (t_1:T1) => (R1 [AV.s (SV.dat (TRow.ints IntKind.i64 (nb p.y)) (nb p.y).length (1:Nat)),AV.s (SV.dat (TRow.ints IntKind.i64 (f0a t)) (f0b t) (1:Nat))]).bind fun (t:T1) => some (AV.tup [CV.s (SV.dat (TRow.ints IntKind.i64 (f1a t_1)) (f1b t_1) (1:Nat)),CV.s (SV.dat (TRow.ints IntKind.i64 (f1a t)) (f1b t) (1:Nat))]):=by kernel_rfl
end
noncomputable def g_DBa (T0:Type) (R0:List AV→Option T0) (f0a:T0→List Int) (f0b:T0→Nat) (T1:Type) (R1:List AV→Option T1) (f1a:T1→List Int) (f1b:T1→Nat) (T2:Type) (R2:List AV→Option T2) (f2a:T2→List Int) (f2b:T2→Nat) (T3:Type) (R3:List AV→Option T3) (f3a:T3→List Int) (f3b:T3→Nat) (T4:Type) (R4:List AV→Option T4) (f4a:T4→List Int) (f4b:T4→Nat) (f4c:T4→Bool):Cg:=⟨⟨gam [(n_opalineref05_Inv,⟨R0,fun t => AV.s (SV.dat (TRow.ints IntKind.i64 (f0a t)) (f0b t) 1)⟩),(n_opalineref05_Mul,⟨R1,fun t => AV.s (SV.dat (TRow.ints IntKind.i64 (f1a t)) (f1b t) 1)⟩),(n_opalineref05_Sub,⟨R2,fun t => AV.s (SV.dat (TRow.ints IntKind.i64 (f2a t)) (f2b t) 1)⟩),(n_opalineref05_Add,⟨R3,fun t => AV.s (SV.dat (TRow.ints IntKind.i64 (f3a t)) (f3b t) 1)⟩),(n_opalineref05_Ratio,⟨R4,fun t => AV.tup [CV.s (SV.dat (TRow.ints IntKind.i64 (f4a t)) (f4b t) 1),CV.s (SV.pl (Pl.bool (f4c t)))]⟩)],[],noE⟩,[]⟩
section
variable (T0:Type) (R0:List AV→Option T0) (f0a:T0→List Int) (f0b:T0→Nat) (T1:Type) (R1:List AV→Option T1) (f1a:T1→List Int) (f1b:T1→Nat) (T2:Type) (R2:List AV→Option T2) (f2a:T2→List Int) (f2b:T2→Nat) (T3:Type) (R3:List AV→Option T3) (f3a:T3→List Int) (f3b:T3→Nat) (T4:Type) (R4:List AV→Option T4) (f4a:T4→List Int) (f4b:T4→Nat) (f4c:T4→Bool)
theorem DBa_ev (fu:Nat) (d:Nat):afunc prog f_opalineref07_Base (g_DBa T0 R0 f0a f0b T1 R1 f1a f1b T2 R2 f2a f2b T3 R3 f3a f3b T4 R4 f4a f4b f4c) fu [eN d] = (R0 [AV.s (SV.dat (TRow.ints IntKind.i64 [(5:Int)]) (1:Nat) (1:Nat))]).bind fun (t:T0) => (R1 [AV.s (SV.dat (TRow.ints IntKind.i64 [(4:Int)]) (1:Nat) (1:Nat)),AV.s (SV.dat (TRow.ints IntKind.i64 (f0a t)) (f0b t) (1:Nat))]).bind fun (t:T1) => (R1 [AV.s (SV.dat (TRow.ints IntKind.i64 (f1a t)) (f1b t) (1:Nat)),AV.s (SV.dat (TRow.ints IntKind.i64 (f1a t)) (f1b t) (1:Nat))]).bind fun (t_1:T1) => (R2 [AV.s (SV.dat (TRow.ints IntKind.i64 (f1a t_1)) (f1b t_1) (1:Nat)),AV.s (SV.dat (TRow.ints IntKind.i64 [(1:Int)]) (1:Nat) (1:Nat))]).bind fun (t_2:T2) => (R1 [AV.s (SV.dat (TRow.ints IntKind.i64 (nb d)) (nb d).length (1:Nat)),AV.s (SV.dat (TRow.ints IntKind.i64 (f1a t_1)) (f1b t_1) (1:Nat))]).bind fun (t_3:T1) => (R3 [AV.s (SV.dat (TRow.ints IntKind.i64 (f1a t_3)) (f1b t_3) (1:Nat)),AV.s (SV.dat (TRow.ints IntKind.i64 [(1:Int)]) (1:Nat) (1:Nat))]).bind fun (t_4:T3) => (R4 [AV.s (SV.dat (TRow.ints IntKind.i64 (f2a t_2)) (f2b t_2) (1:Nat)),AV.s (SV.dat (TRow.ints IntKind.i64 (f3a t_4)) (f3b t_4) (1:Nat))]).bind fun (t_5:T4) => some (AV.c (CV.mix [SV.dat (TRow.ints IntKind.i64 (f4a t_5)) (f4b t_5) (1:Nat),SV.dat (TRow.ints IntKind.i64 (f1a t)) (f1b t) (1:Nat),SV.dat (TRow.ints IntKind.i64 [(1:Int)]) (1:Nat) (1:Nat)])):=by kernel_rfl
end
noncomputable def g_DIs (T0:Type) (R0:List AV→Option T0) (f0a:T0→List Int) (f0b:T0→List Int) (f0c:T0→List Int) (f0d:T0→List Int) (T1:Type) (R1:List AV→Option T1) (f1a:T1→List Int) (T2:Type) (R2:List AV→Option T2) (f2a:T2→List Int) (f2b:T2→Nat) (T3:Type) (R3:List AV→Option T3) (f3a:T3→List Int) (f3b:T3→Nat) (T4:Type) (R4:List AV→Option T4) (f4a:T4→Int) (T5:Type) (R5:List AV→Option T5) (f5a:T5→Int) (f5b:T5→Int) (f5c:T5→Int) (f5d:T5→Int) (f5e:T5→Int) (T6:Type) (R6:List AV→Option T6) (f6a:T6→Bool):Cg:=⟨⟨gam [(n_curve_Point_Parts,⟨R0,fun t => AV.tup [CV.s (SV.pl (Pl.agg (TRow.ints IntKind.u64 (f0a t)) 5)),CV.s (SV.pl (Pl.agg (TRow.ints IntKind.u64 (f0b t)) 5)),CV.s (SV.pl (Pl.agg (TRow.ints IntKind.u64 (f0c t)) 5)),CV.s (SV.pl (Pl.agg (TRow.ints IntKind.u64 (f0d t)) 5))]⟩),(n_field_Element_Bytes,⟨R1,fun t => AV.agg (TRow.ints IntKind.u8 (f1a t)) 32⟩),(n_opalineref05_Of,⟨R2,fun t => AV.s (SV.dat (TRow.ints IntKind.i64 (f2a t)) (f2b t) 1)⟩),(n_opalineref05_Mul,⟨R3,fun t => AV.s (SV.dat (TRow.ints IntKind.i64 (f3a t)) (f3b t) 1)⟩),(n_opalineref01_Cmp,⟨R4,fun t => AV.int IntKind.i64 (f4a t)⟩),(n_field_Element_Mul,⟨R5,fun t => AV.agg (TRow.ints IntKind.u64 [(f5a t),(f5b t),(f5c t),(f5d t),(f5e t)]) 5⟩),(n_field_Element_Same,⟨R6,fun t => AV.bool (f6a t)⟩)],[],noE⟩,[]⟩
section
variable (T0:Type) (R0:List AV→Option T0) (f0a:T0→List Int) (f0b:T0→List Int) (f0c:T0→List Int) (f0d:T0→List Int) (T1:Type) (R1:List AV→Option T1) (f1a:T1→List Int) (T2:Type) (R2:List AV→Option T2) (f2a:T2→List Int) (f2b:T2→Nat) (T3:Type) (R3:List AV→Option T3) (f3a:T3→List Int) (f3b:T3→Nat) (T4:Type) (R4:List AV→Option T4) (f4a:T4→Int) (T5:Type) (R5:List AV→Option T5) (f5a:T5→Int) (f5b:T5→Int) (f5c:T5→Int) (f5d:T5→Int) (f5e:T5→Int) (T6:Type) (R6:List AV→Option T6) (f6a:T6→Bool)
theorem DIs_ev (fu:Nat) (a b c d e f g h i j k l m n o p q r s t:Int) (w:RP):afunc prog f_opalinelaw07_Is (g_DIs T0 R0 f0a f0b f0c f0d T1 R1 f1a T2 R2 f2a f2b T3 R3 f3a f3b T4 R4 f4a T5 R5 f5a f5b f5c f5d f5e T6 R6 f6a) fu [AV.agg (TRow.ints IntKind.u64 [a,b,c,d,e,f,g,h,i,j,k,l,m,n,o,p,q,r,s,t]) (20:Nat),eRP w] = (R0 [AV.agg (TRow.ints IntKind.u64 [a,b,c,d,e,f,g,h,i,j,k,l,m,n,o,p,q,r,s,t]) (20:Nat)]).bind fun (t:T0) => (R1 [AV.agg (TRow.ints IntKind.u64 (f0a t)) (5:Nat)]).bind fun (t_1:T1) => (R2 [AV.agg (TRow.ints IntKind.u8 (f1a t_1)) (32:Nat)]).bind fun (t_2:T2) => (R1 [AV.agg (TRow.ints IntKind.u64 (f0b t)) (5:Nat)]).bind fun (t_3:T1) => (R2 [AV.agg (TRow.ints IntKind.u8 (f1a t_3)) (32:Nat)]).bind fun (t_4:T2) => (R1 [AV.agg (TRow.ints IntKind.u64 (f0c t)) (5:Nat)]).bind fun (t_5:T1) => (R2 [AV.agg (TRow.ints IntKind.u8 (f1a t_5)) (32:Nat)]).bind fun (t_6:T2) => bif decide ((0:Int) < (↑(f2b t_6):Int)) then (R3 [AV.s (SV.dat (TRow.ints IntKind.i64 (f2a t_2)) (f2b t_2) (1:Nat)),AV.s (SV.dat (TRow.ints IntKind.i64 (nb w.z)) (nb w.z).length (1:Nat))]).bind fun (t_7:T3) => (R3 [AV.s (SV.dat (TRow.ints IntKind.i64 (nb w.x)) (nb w.x).length (1:Nat)),AV.s (SV.dat (TRow.ints IntKind.i64 (f2a t_6)) (f2b t_6) (1:Nat))]).bind fun (t_8:T3) => (R4 [AV.s (SV.dat (TRow.ints IntKind.i64 (f3a t_7)) (f3b t_7) (1:Nat)),AV.s (SV.dat (TRow.ints IntKind.i64 (f3a t_8)) (f3b t_8) (1:Nat))]).bind fun (t_9:T4) => bif decide (f4a t_9 = (0:Int)) then (R3 [AV.s (SV.dat (TRow.ints IntKind.i64 (f2a t_4)) (f2b t_4) (1:Nat)),AV.s (SV.dat (TRow.ints IntKind.i64 (nb w.z)) (nb w.z).length (1:Nat))]).bind fun (t_10:T3) => (R3 [AV.s (SV.dat (TRow.ints IntKind.i64 (nb w.y)) (nb w.y).length (1:Nat)),AV.s (SV.dat (TRow.ints IntKind.i64 (f2a t_6)) (f2b t_6) (1:Nat))]).bind fun (t_11:T3) => (R4 [AV.s (SV.dat (TRow.ints IntKind.i64 (f3a t_10)) (f3b t_10) (1:Nat)),AV.s (SV.dat (TRow.ints IntKind.i64 (f3a t_11)) (f3b t_11) (1:Nat))]).bind fun (t_12:T4) => bif decide (f4a t_12 = (0:Int)) then (R5 [AV.agg (TRow.ints IntKind.u64 (f0a t)) (5:Nat),AV.agg (TRow.ints IntKind.u64 (f0b t)) (5:Nat)]).bind fun (t_13:T5) => (R5 [AV.agg (TRow.ints IntKind.u64 (f0c t)) (5:Nat),AV.agg (TRow.ints IntKind.u64 (f0d t)) (5:Nat)]).bind fun (t:T5) => (R6 [AV.agg (TRow.ints IntKind.u64 [f5a t_13,f5b t_13,f5c t_13,f5d t_13,f5e t_13]) (5:Nat),AV.agg (TRow.ints IntKind.u64 [f5a t,f5b t,f5c t,f5d t,f5e t]) (5:Nat)]).bind fun (t:T6) => some (AV.bool (f6a t)) else some (AV.bool false) else some (AV.bool false) else some (AV.bool false):=by kernel_rfl
end
end Go.Eng
/- The document's points: their contracts. -/
namespace Go.Eng
open Go Go.Proofs
set_option linter.unusedVariables false
set_option linter.unusedSimpArgs false
set_option maxRecDepth 4000
theorem CallOk.conv {P:Program} {f:FuncId} {T:Type} {R:List AV→Option T} {e1 e2:T→AV} (hA:CallOk P f ⟨R,e1⟩)
    (h:∀ (t:T) (w:World) (X:Nat→Prop) (v:Value),AVR w (P0 X) (e1 t) v→AVR w (P0 X) (e2 t) v ∧ (e2 t).refs = []):CallOk P f ⟨R,e2⟩:=by
  intro args t ht w X vs hX hargs
  rcases hA args t ht w X vs hX hargs with ⟨v,w',hr,h1,h2,h3⟩ | ⟨hr,hc⟩
  · have:=h t w' X v h1
    exact .inl ⟨v,w',hr,this.1,this.2,h3⟩
  · refine .inr ⟨hr,hc.mono fun e w' he => ?_⟩
    obtain ⟨v,e1,h1,h2,h3⟩:=he
    have:=h t w' X v h1
    exact ⟨v,e1,this.1,this.2,h3⟩
theorem okNP_ok {a:List Int} {n:Nat} (h:okNP a n = true):∃ x,a = nb x ∧ n = (nb x).length ∧ x < P25 ∧ vB a = x:=by
  unfold okNP at h
  rw [Bool.and_eq_true] at h
  obtain ⟨x,h1,h2,_,h3⟩:=okN_ok h.1
  refine ⟨x,h1,h2,?_,h3⟩
  have:=Nat.blt_eq.mp h.2
  rwa [h3] at this
theorem okNP_nb {x:Nat} (h:x < P25):okNP (nb x) (nb x).length = true:=by
  have l:=P_len h
  unfold okNP bP
  rw [okN_nb (by omega),vB_nb,Nat.blt_eq.mpr h]; rfl
structure RP.ok (p:RP):Prop where
  x:p.x < P25
  y:p.y < P25
  z:p.z < P25
theorem runR1_ok {T:Type} {F:RP→T} {args:List AV} {t:T} (h:runR1 F args = some t):∃ p,args = [eRP p] ∧ p.ok ∧ t = F p:=by
  unfold runR1 at h
  split at h
  · obtain ⟨h1,h2⟩:=ctrueS h
    simp only [Bool.and_eq_true] at h1
    obtain ⟨x,rfl,rfl,hx,ex⟩:=okNP_ok h1.1
    obtain ⟨y,rfl,rfl,hy,ey⟩:=okNP_ok h1.2.1
    obtain ⟨z,rfl,rfl,hz,ez⟩:=okNP_ok h1.2.2
    rw [ex,ey,ez] at h2
    exact ⟨⟨x,y,z⟩,rfl,⟨hx,hy,hz⟩,h2.symm⟩
  · cases h
theorem run_R1 {T:Type} (F:RP→T) {p:RP} (h:p.ok):runR1 F [eRP p] = some (F p):=by
  show cond (okNP (nb p.x) (nb p.x).length && (okNP (nb p.y) (nb p.y).length && okNP (nb p.z) (nb p.z).length)) (some (F ⟨vB (nb p.x),vB (nb p.y),vB (nb p.z)⟩)) none = _
  rw [okNP_nb h.x,okNP_nb h.y,okNP_nb h.z,vB_nb,vB_nb,vB_nb]; rfl
theorem runR2N_ok {T:Type} {F:RP→RP→Nat→T} {args:List AV} {t:T} (h:runR2N F args = some t):∃ p q d,args = [eRP p,eRP q,eN d] ∧ p.ok ∧ q.ok ∧ d < P25 ∧ t = F p q d:=by
  unfold runR2N at h
  split at h
  · obtain ⟨h1,h2⟩:=ctrueS h
    simp only [Bool.and_eq_true] at h1
    obtain ⟨x,rfl,rfl,hx,ex⟩:=okNP_ok h1.1.1.1
    obtain ⟨y,rfl,rfl,hy,ey⟩:=okNP_ok h1.1.1.2.1
    obtain ⟨z,rfl,rfl,hz,ez⟩:=okNP_ok h1.1.1.2.2
    obtain ⟨x',rfl,rfl,hx',ex'⟩:=okNP_ok h1.1.2.1
    obtain ⟨y',rfl,rfl,hy',ey'⟩:=okNP_ok h1.1.2.2.1
    obtain ⟨z',rfl,rfl,hz',ez'⟩:=okNP_ok h1.1.2.2.2
    obtain ⟨d,rfl,rfl,hd,ed⟩:=okNP_ok h1.2
    rw [ex,ey,ez,ex',ey',ez',ed] at h2
    exact ⟨⟨x,y,z⟩,⟨x',y',z'⟩,d,rfl,⟨hx,hy,hz⟩,⟨hx',hy',hz'⟩,hd,h2.symm⟩
  · cases h
theorem run_R2N {T:Type} (F:RP→RP→Nat→T) {p q:RP} {d:Nat} (h:p.ok) (k:q.ok) (hd:d < P25):runR2N F [eRP p,eRP q,eN d] = some (F p q d):=by
  show cond (okNP (nb p.x) (nb p.x).length && (okNP (nb p.y) (nb p.y).length && okNP (nb p.z) (nb p.z).length) && (okNP (nb q.x) (nb q.x).length && (okNP (nb q.y) (nb q.y).length && okNP (nb q.z) (nb q.z).length)) && okNP (nb d) (nb d).length)
    (some (F ⟨vB (nb p.x),vB (nb p.y),vB (nb p.z)⟩ ⟨vB (nb q.x),vB (nb q.y),vB (nb q.z)⟩ (vB (nb d)))) none = _
  rw [okNP_nb h.x,okNP_nb h.y,okNP_nb h.z,okNP_nb k.x,okNP_nb k.y,okNP_nb k.z,okNP_nb hd,vB_nb,vB_nb,vB_nb,vB_nb,vB_nb,vB_nb,vB_nb]; rfl
theorem runRNN_ok {T:Type} {F:RP→Nat→Nat→T} {C:Nat→Bool} {args:List AV} {t:T} (h:runRNN F C args = some t):∃ p n d,args = [eRP p,eN n,eN d] ∧ p.ok ∧ (nb n).length ≤ 1048576 ∧ C n = true ∧ d < P25 ∧ t = F p n d:=by
  unfold runRNN at h
  split at h
  · obtain ⟨h1,h2⟩:=ctrueS h
    simp only [Bool.and_eq_true] at h1
    obtain ⟨x,rfl,rfl,hx,ex⟩:=okNP_ok h1.1.1.1
    obtain ⟨y,rfl,rfl,hy,ey⟩:=okNP_ok h1.1.1.2.1
    obtain ⟨z,rfl,rfl,hz,ez⟩:=okNP_ok h1.1.1.2.2
    obtain ⟨n,rfl,rfl,hn,en⟩:=okN_ok h1.1.2.1
    obtain ⟨d,rfl,rfl,hd,ed⟩:=okNP_ok h1.2
    have hc:=h1.1.2.2
    rw [en] at hc
    rw [ex,ey,ez,en,ed] at h2
    exact ⟨⟨x,y,z⟩,n,d,rfl,⟨hx,hy,hz⟩,hn,hc,hd,h2.symm⟩
  · cases h
theorem run_RNN {T:Type} (F:RP→Nat→Nat→T) (C:Nat→Bool) {p:RP} {n d:Nat} (h:p.ok) (hn:(nb n).length ≤ 1048576) (hc:C n = true) (hd:d < P25):runRNN F C [eRP p,eN n,eN d] = some (F p n d):=by
  show cond (okNP (nb p.x) (nb p.x).length && (okNP (nb p.y) (nb p.y).length && okNP (nb p.z) (nb p.z).length) && (okN (nb n) (nb n).length && C (vB (nb n))) && okNP (nb d) (nb d).length)
    (some (F ⟨vB (nb p.x),vB (nb p.y),vB (nb p.z)⟩ (vB (nb n)) (vB (nb d)))) none = _
  rw [okNP_nb h.x,okNP_nb h.y,okNP_nb h.z,okN_nb hn,okNP_nb hd,vB_nb,vB_nb,vB_nb,vB_nb,vB_nb,hc]; rfl
def sRNeut0:Summ:={ T:=RP,run:=run0 neutR,enc:=fun _ => .c (.mix [.pl (.raw (.slice none 0 0)),.dat (.ints .i64 [1]) 1 1,.dat (.ints .i64 [1]) 1 1]) }
noncomputable abbrev gI_DNe:Cg:=g_DNe 
theorem gok_DNe:CfOk prog gI_DNe.c:=⟨gam_nil,fun _ _ h => by cases h⟩
theorem ok_RNeut0:CallOk prog n_opalineref07_Neutral sRNeut0:=by
  refine afunc_okE (g:=gI_DNe) (fu:=fun _ => 0) mixed gok_DNe h_opalineref07_Neutral (by kernel_rfl) ?_
  intro args t ht
  unfold sRNeut0 run0 at ht
  simp only at ht
  split at ht
  · exact DNe_ev ..
  · cases ht
theorem ok_RNeut:CallOk prog n_opalineref07_Neutral sRNeut:=by
  intro args t ht w X vs hX hargs
  have ht':run0 neutR args = some t:=ht
  have e:t = neutR:=by
    unfold run0 at ht'
    split at ht'
    · exact (Option.some.inj ht').symm
    · cases ht'
  subst e
  have key:∀ (w:World) (v:Value),AVR w (P0 X) (sRNeut0.enc neutR) v→AVR w (P0 X) (eRP neutR) v ∧ (eRP neutR).refs = []:=by
    intro w v h
    refine ⟨?_,rfl⟩
    obtain ⟨cs,e,hl,hc⟩:=h
    refine ⟨cs,e,hl,fun i x v' hx hv => ?_⟩
    match i,hx with
    | 0,hx =>
      cases hx
      have h0:SVR w (P0 X) (.pl (.raw (.slice none 0 0))) v':=hc 0 _ v' rfl hv
      have h0':v' = .slice none 0 0:=h0.1
      exact ⟨rfl,.inl ⟨rfl,h0'⟩⟩
    | 1,hx => cases hx; exact hc 1 _ v' rfl hv
    | 2,hx => cases hx; exact hc 2 _ v' rfl hv
  rcases ok_RNeut0 args neutR ht w X vs hX hargs with ⟨v,w',hr,h1,h2,h3⟩ | ⟨hr,hc⟩
  · exact .inl ⟨v,w',hr,(key w' v h1).1,(key w' v h1).2,h3⟩
  · refine .inr ⟨hr,hc.mono fun e w' he => ?_⟩
    obtain ⟨v,e1,h1,h2,h3⟩:=he
    exact ⟨v,e1,(key w' v h1).1,(key w' v h1).2,h3⟩
theorem mP (n:Nat):n % P25 < P25:=Nat.mod_lt _ (by decide)
noncomputable abbrev gI_DAd:Cg:=g_DAd (Nat) rRMul (fun t => nb t) (fun t => (nb t).length) (Nat) rRSub (fun t => nb t) (fun t => (nb t).length) (Nat) rRAdd (fun t => nb t) (fun t => (nb t).length)
theorem gok_DAd:CfOk prog gI_DAd.c:=⟨gam_cons ok_RMul <| gam_cons ok_RSub <| gam_cons ok_RAdd <| gam_nil,fun _ _ h => by cases h⟩
theorem ok_RAddP:CallOk prog n_opalineref07_Add sRAddP:=by
  refine afunc_okE (g:=gI_DAd) (fu:=fun _ => 0) mixed gok_DAd h_opalineref07_Add (by kernel_rfl) ?_
  intro args t ht
  obtain ⟨p,q,d,rfl,hp,hq,hd,rfl⟩:=runR2N_ok (F:=addR) ht
  have m1:=run_RMul hp.z hq.z
  have ha:=mP (p.z * q.z)
  unfold addR
  generalize p.z * q.z % P25 = a at *
  have m2:=run_RMul ha ha
  have hb:=mP (a * a)
  generalize a * a % P25 = b at *
  have m3:=run_RMul hp.x hq.x
  have hxx:=mP (p.x * q.x)
  generalize p.x * q.x % P25 = xx at *
  have m4:=run_RMul hp.y hq.y
  have hyy:=mP (p.y * q.y)
  generalize p.y * q.y % P25 = yy at *
  have m5:=run_RMul hxx hyy
  have hxy:=mP (xx * yy)
  generalize xx * yy % P25 = xy at *
  have m6:=run_RMul hd hxy
  have he:=mP (d * xy)
  generalize d * xy % P25 = e at *
  have s1:=run_RSub hb he
  have hf:=mP (b + P25 - e)
  generalize (b + P25 - e) % P25 = f at *
  have a1:=run_RAdd hb he
  have hg:=mP (b + e)
  generalize (b + e) % P25 = g at *
  have m7:=run_RMul ha hf
  have h7:=mP (a * f)
  generalize a * f % P25 = af at *
  have m8:=run_RMul hp.x hq.y
  have h8:=mP (p.x * q.y)
  generalize p.x * q.y % P25 = c1 at *
  have m9:=run_RMul hp.y hq.x
  have h9:=mP (p.y * q.x)
  generalize p.y * q.x % P25 = c2 at *
  have a2:=run_RAdd h8 h9
  have hc:=mP (c1 + c2)
  generalize (c1 + c2) % P25 = c at *
  have m10:=run_RMul h7 hc
  have m11:=run_RMul ha hg
  have h11:=mP (a * g)
  generalize a * g % P25 = ag at *
  have a3:=run_RAdd hyy hxx
  have hs:=mP (yy + xx)
  generalize (yy + xx) % P25 = s at *
  have m12:=run_RMul h11 hs
  have m13:=run_RMul hf hg
  generalize af * c % P25 = X at *
  generalize ag * s % P25 = Y at *
  generalize f * g % P25 = Z at *
  refine (DAd_ev ..).trans ?_
  simp only [eN] at m1 m2 m3 m4 m5 m6 s1 a1 m7 m8 m9 a2 m10 m11 a3 m12 m13
  rw [m1,Option.bind_some,m2,Option.bind_some,m3,Option.bind_some,m4,Option.bind_some,m5,Option.bind_some,m6,Option.bind_some,s1,Option.bind_some,a1,Option.bind_some,m7,Option.bind_some,m8,Option.bind_some,m9,Option.bind_some,a2,Option.bind_some,m10,Option.bind_some,m11,Option.bind_some,a3,Option.bind_some,m12,Option.bind_some,m13,Option.bind_some]
  rfl
theorem run_RAddP {p q:RP} {d:Nat} (h:p.ok) (k:q.ok) (hd:d < P25):rRAddP [eRP p,eRP q,eN d] = some (addR p q d):=run_R2N addR h k hd
theorem addR_ok (p q:RP) (d:Nat):(addR p q d).ok:=⟨mP _,mP _,mP _⟩
theorem neutR_ok:neutR.ok:=⟨by decide,by decide,by decide⟩
end Go.Eng
/- The document's points: so often, x and y alone, the base; whether a point is one. -/
namespace Go.Eng
open Go Go.Proofs
set_option linter.unusedVariables false
set_option linter.unusedSimpArgs false
set_option maxRecDepth 4000
noncomputable abbrev gI_DTi:Cg:=g_DTi (RP) rRNeut (fun t => nb t.x) (fun t => (nb t.x).length) (fun t => nb t.y) (fun t => (nb t.y).length) (fun t => nb t.z) (fun t => (nb t.z).length) (Nat) rRefLen (fun t => ↑t) (RP) rRAddP (fun t => nb t.x) (fun t => (nb t.x).length) (fun t => nb t.y) (fun t => (nb t.y).length) (fun t => nb t.z) (fun t => (nb t.z).length) (Nat) rRefBit (fun t => ↑t)
theorem gok_DTi:CfOk prog gI_DTi.c:=⟨gam_cons ok_RNeut <| gam_cons ok_RefLen <| gam_cons ok_RAddP <| gam_cons ok_RefBit <| gam_nil,fun _ _ h => by cases h⟩
theorem ti_loop {p:RP} {n d:Nat} (hp:p.ok) (hn:(nb n).length ≤ 64) (hd:d < P25) (fu:Nat):∀ (k m:Nat) (c:RP),k < m→k ≤ 512→c.ok →
    lpA prog gI_DTi fu DTi_b1 (DTi_k1 _ rRNeut (fun t => nb t.x) (fun t => (nb t.x).length) (fun t => nb t.y) (fun t => (nb t.y).length) (fun t => nb t.z) (fun t => (nb t.z).length) _ rRefLen (fun t => (t:Int)) _ rRAddP (fun t => nb t.x) (fun t => (nb t.x).length) (fun t => nb t.y) (fun t => (nb t.y).length) (fun t => nb t.z) (fun t => (nb t.z).length) _ rRefBit (fun t => (t:Int)) fu) m
      (some (DTi_s1 (nb n) (nb n).length (nb d) (nb d).length ((k:Int) - 1) (nb p.x) (nb p.x).length (nb p.y) (nb p.y).length (nb p.z) (nb p.z).length (nb c.x) (nb c.x).length (nb c.y) (nb c.y).length (nb c.z) (nb c.z).length)) = some (eRP ((bitsDn n k).foldl (stepR p d) c)):=by
  intro k
  induction k with
  | zero =>
    intro m c hm _ hc
    obtain ⟨m,rfl⟩:=Nat.exists_eq_succ_of_ne_zero (by omega:m ≠ 0)
    rw [lpA_succ,DTi_r1,decide_eq_false (by omega),cond_false,kOut_some,DTi_c1e0]
    rfl
  | succ k ih =>
    intro m c hm hk hc
    obtain ⟨m,rfl⟩:=Nat.exists_eq_succ_of_ne_zero (by omega:m ≠ 0)
    have a1:=run_RAddP hc hc hd
    have h1:=addR_ok c c d
    have b:=run_RefBit (x:=n) (i:=(k:Int)) (by omega) (by omega) (by omega)
    have hb:bitN n (k:Int) = n / 2 ^ k % 2:=by rw [bitN,decide_eq_false (by omega),cond_false,Int.toNat_natCast]
    rw [hb] at b
    have a2:=run_RAddP h1 hp hd
    have key:∀ c':RP,c'.ok→c' = stepR p d c (Nat.beq (n / 2 ^ k % 2) 1)→lpA prog gI_DTi fu DTi_b1 (DTi_k1 _ rRNeut (fun t => nb t.x) (fun t => (nb t.x).length) (fun t => nb t.y) (fun t => (nb t.y).length) (fun t => nb t.z) (fun t => (nb t.z).length) _ rRefLen (fun t => (t:Int)) _ rRAddP (fun t => nb t.x) (fun t => (nb t.x).length) (fun t => nb t.y) (fun t => (nb t.y).length) (fun t => nb t.z) (fun t => (nb t.z).length) _ rRefBit (fun t => (t:Int)) fu) m
      (some (DTi_s1 (nb n) (nb n).length (nb d) (nb d).length ((k:Int) - 1) (nb p.x) (nb p.x).length (nb p.y) (nb p.y).length (nb p.z) (nb p.z).length (nb c'.x) (nb c'.x).length (nb c'.y) (nb c'.y).length (nb c'.z) (nb c'.z).length)) = some (eRP ((bitsDn n (k + 1)).foldl (stepR p d) c)):=by
      intro c' hc' e
      rw [ih m c' (by omega) (by omega) hc',e]
      rfl
    have e:((k + 1:Nat):Int) - 1 = (k:Int):=by omega
    have ew:IntKind.i64.wrap ((k:Int) - 1) = (k:Int) - 1:=wi64 (by omega) (by omega)
    have hbt:n / 2 ^ k % 2 < 2:=Nat.mod_lt _ (by omega)
    generalize n / 2 ^ k % 2 = bb at *
    rw [e,lpA_succ,DTi_r1,decide_eq_true (by omega),cond_true]
    simp only [eRP,eN] at a1 a2 b
    rw [a1,Option.bind_some,b,Option.bind_some]
    match bb,hbt with
    | 0,_ =>
      rw [decide_eq_false (by omega),cond_false,ew]
      exact key _ h1 rfl
    | 1,_ =>
      rw [decide_eq_true (by omega),cond_true,a2,Option.bind_some,ew]
      exact key _ (addR_ok _ _ _) rfl
theorem bl_M {n:Nat} (h:n < M512'):bl n ≤ 512:=bl_lim n 8 (Nat.lt_of_lt_of_eq h (by decide +kernel))
theorem ok_RTimes:CallOk prog n_opalineref07_Times sRTimes:=by
  refine afunc_okE (g:=gI_DTi) (fu:=fun _ => 600) mixed gok_DTi h_opalineref07_Times (by kernel_rfl) ?_
  intro args t ht
  obtain ⟨p,n,d,rfl,hp,_,hc,hd,rfl⟩:=runRNN_ok (F:=timesR) (C:=fun n => Nat.blt n M512') ht
  have hn:n < M512':=Nat.blt_eq.mp hc
  have hl:(nb n).length ≤ 64:=nb_len_le hn
  have l:=run_RefLen (x:=n) (by omega)
  have hb:=bl_M hn
  simp only [eN] at l
  refine (DTi_ev ..).trans ?_
  rw [show rRNeut [] = some neutR from rfl,Option.bind_some,l,Option.bind_some,wi64 (by omega) (by omega)]
  exact ti_loop hp hl hd 600 (bl n) 600 neutR (by omega) (by omega) neutR_ok
theorem run_RTimes {p:RP} {n d:Nat} (h:p.ok) (hn:n < M512') (hd:d < P25):rRTimes [eRP p,eN n,eN d] = some (timesR p n d) :=
  run_RNN timesR (fun n => Nat.blt n M512') h (Nat.le_trans (nb_len_le (k:=64) hn) (by decide)) (Nat.blt_eq.mpr hn) hd
noncomputable abbrev gI_DPl:Cg:=g_DPl (Nat) rRInv (fun t => nb t) (fun t => (nb t).length) (Nat) rRMul (fun t => nb t) (fun t => (nb t).length)
theorem gok_DPl:CfOk prog gI_DPl.c:=⟨gam_cons ok_RInv <| gam_cons ok_RMul <| gam_nil,fun _ _ h => by cases h⟩
theorem ok_RPlain:CallOk prog n_opalineref07_Plain sRPlain:=by
  refine afunc_okE (g:=gI_DPl) (fu:=fun _ => 0) mixed gok_DPl h_opalineref07_Plain (by kernel_rfl) ?_
  intro args t ht
  obtain ⟨p,rfl,hp,rfl⟩:=runR1_ok (F:=plR) ht
  have i:=run_RInvN hp.z
  have hi:invN p.z < P25:=mP _
  have e:plR p = (p.x * invN p.z % P25,p.y * invN p.z % P25):=rfl
  rw [e]
  generalize invN p.z = zi at *
  have m1:=run_RMul hp.x hi
  have m2:=run_RMul hp.y hi
  simp only [eN] at i m1 m2
  refine (DPl_ev ..).trans ?_
  rw [i,Option.bind_some,m1,Option.bind_some,m2,Option.bind_some]
  rfl
theorem run_RPlain {p:RP} (h:p.ok):rRPlain [eRP p] = some (plR p):=run_R1 plR h
noncomputable abbrev gI_DPa:Cg:=g_DPa 
theorem gok_DPa:CfOk prog gI_DPa.c:=⟨gam_nil,fun _ _ h => by cases h⟩
theorem ok_Parts:CallOk prog n_curve_Point_Parts sParts:=by
  refine afunc_okE (g:=gI_DPa) (fu:=fun _ => 0) mixed gok_DPa h_curve_Point_Parts (by kernel_rfl) ?_
  intro args t ht
  obtain ⟨p,rfl,hp,rfl⟩:=runP1_ok (F:=fun p => p) ht
  exact DPa_ev ..
theorem run_Parts {p:Pt} (h:pOk p):rParts [eP p] = some p:=run_P1 (fun p => p) h
noncomputable abbrev gI_DOf:Cg:=g_DOf 
theorem gok_DOf:CfOk prog gI_DOf.c:=⟨gam_nil,fun _ _ h => by cases h⟩
theorem ok_COf:CallOk prog n_curve_Of sCOf:=by
  refine afunc_okE (g:=gI_DOf) (fu:=fun _ => 0) mixed gok_DOf h_curve_Of (by kernel_rfl) ?_
  intro args t ht
  obtain ⟨x,y,z,w,rfl,_,_,_,_,rfl⟩:=runF4_ok (F:=fun x y z t => (⟨x,y,z,t⟩:Pt)) ht
  exact DOf_ev ..
theorem run_COf {x y z t:Fe} (h1:fOk x) (h2:fOk y) (h3:fOk z) (h4:fOk t):rCOf [eF x,eF y,eF z,eF t] = some ⟨x,y,z,t⟩:=run_F4 (fun x y z t => (⟨x,y,z,t⟩:Pt)) h1 h2 h3 h4
noncomputable abbrev gI_DIs:Cg:=g_DIs (Pt) rParts (fun t => [↑t.x.a,↑t.x.b,↑t.x.c,↑t.x.d,↑t.x.e]) (fun t => [↑t.y.a,↑t.y.b,↑t.y.c,↑t.y.d,↑t.y.e]) (fun t => [↑t.z.a,↑t.z.b,↑t.z.c,↑t.z.d,↑t.z.e]) (fun t => [↑t.t.a,↑t.t.b,↑t.t.c,↑t.t.d,↑t.t.e]) (List Int) rFBytes (fun t => t) (Nat) rROf (fun t => nb t) (fun t => (nb t).length) (Nat) rRMul (fun t => nb t) (fun t => (nb t).length) (Int) rRefCmp (fun t => t) (Fe) rFMul (fun t => ↑t.a) (fun t => ↑t.b) (fun t => ↑t.c) (fun t => ↑t.d) (fun t => ↑t.e) (Bool) rSam (fun t => t)
theorem gok_DIs:CfOk prog gI_DIs.c:=⟨gam_cons ok_Parts <| gam_cons ok_FBytes <| gam_cons ok_ROf <| gam_cons ok_RMul <| gam_cons ok_RefCmp <| gam_cons ok_FMul <| gam_cons ok_Sam <| gam_nil,fun _ _ h => by cases h⟩
theorem loOf {x:Fe} (hx:fOk x):rROf [AV.agg (.ints .u8 (lo 32 (fv x % P25))) 32] = some (fv x % P25):=by
  have h:=run_ROf (ok32_loL (fv x % P25))
  rw [vB_loL,Nat.mod_mod] at h
  exact h
theorem ok_IsP:CallOk prog n_opalinelaw07_Is sIsP:=by
  refine afunc_okE (g:=gI_DIs) (fu:=fun _ => 0) mixed gok_DIs h_opalinelaw07_Is (by kernel_rfl) ?_
  intro args t ht
  unfold sIsP at ht
  simp only at ht
  split at ht
  · obtain ⟨h1,h2⟩:=ctrueS ht
    simp only [Bool.and_eq_true] at h1
    obtain ⟨x,rfl,rfl,rfl,rfl,rfl,hx,ex⟩:=inF_ok h1.1.1
    obtain ⟨y,rfl,rfl,rfl,rfl,rfl,hy,ey⟩:=inF_ok h1.1.2.1
    obtain ⟨z,rfl,rfl,rfl,rfl,rfl,hz,ez⟩:=inF_ok h1.1.2.2.1
    obtain ⟨w,rfl,rfl,rfl,rfl,rfl,hw,ew⟩:=inF_ok h1.1.2.2.2
    obtain ⟨X,rfl,rfl,hX,eX⟩:=okNP_ok h1.2.1
    obtain ⟨Y,rfl,rfl,hY,eY⟩:=okNP_ok h1.2.2.1
    obtain ⟨Z,rfl,rfl,hZ,eZ⟩:=okNP_ok h1.2.2.2
    rw [ex,ey,ez,ew,eX,eY,eZ] at h2
    subst h2
    have p:=run_Parts (p:=⟨x,y,z,w⟩) ⟨hx,hy,hz,hw⟩
    have bx:=run_FBytes hx
    have b_y:=run_FBytes hy
    have bz:=run_FBytes hz
    have ox:=loOf hx
    have oy:=loOf hy
    have oz:=loOf hz
    have m1:=run_FMul hx hy
    have m2:=run_FMul hz hw
    have ss:=run_Sam (mul_ok hx hy) (mul_ok hz hw)
    have kx:=mP (fv x)
    have ky:=mP (fv y)
    have kz:=mP (fv z)
    show _ = some (AV.bool (isR ⟨x,y,z,w⟩ ⟨X,Y,Z⟩))
    unfold isR
    simp only
    generalize fv x % P25 = a at *
    generalize fv y % P25 = b at *
    generalize fv z % P25 = c at *
    have n1:=run_RMul kx hZ
    have n2:=run_RMul hX kz
    have n3:=run_RMul ky hZ
    have n4:=run_RMul hY kz
    have l1:=P_len (mP (a * Z))
    have l2:=P_len (mP (X * c))
    have l3:=P_len (mP (b * Z))
    have l4:=P_len (mP (Y * c))
    generalize a * Z % P25 = v1 at *
    generalize X * c % P25 = v2 at *
    generalize b * Z % P25 = v3 at *
    generalize Y * c % P25 = v4 at *
    have c1:=run_RefCmp (x:=v1) (y:=v2) (by omega) (by omega)
    have c2:=run_RefCmp (x:=v3) (y:=v4) (by omega) (by omega)
    refine (DIs_ev (w:=⟨X,Y,Z⟩) ..).trans ?_
    dsimp only
    generalize samF (mulF x y) (mulF z w) = sb at *
    generalize mulF x y = M1 at *
    generalize mulF z w = M2 at *
    simp only [eP,eF,eB32,eN] at p bx b_y bz ox oy oz m1 m2 ss n1 n2 n3 n4 c1 c2
    rw [p,Option.bind_some,bx,Option.bind_some,ox,Option.bind_some,b_y,Option.bind_some,oy,Option.bind_some,bz,Option.bind_some,oz,Option.bind_some]
    have hlen:decide ((0:Int) < (((nb c).length:Nat):Int)) = decide (0 < (nb c).length):=decide_eq_decide.2 (by omega)
    rw [hlen]
    cases decide (0 < (nb c).length)
    · rfl
    · rw [cond_true,n1,Option.bind_some,n2,Option.bind_some,c1,Option.bind_some,cmpN_zeroC]
      cases Nat.beq v1 v2
      · rfl
      · rw [cond_true,n3,Option.bind_some,n4,Option.bind_some,c2,Option.bind_some,cmpN_zeroC]
        cases Nat.beq v3 v4
        · rfl
        · rw [cond_true,m1,Option.bind_some,m2,Option.bind_some,ss,Option.bind_some]
          rfl
  · cases ht
theorem run_IsP {p:Pt} {r:RP} (h:pOk p) (k:r.ok):rIsP [eP p,eRP r] = some (isR p r):=by
  obtain ⟨x,y,z,w⟩:=p
  obtain ⟨h1,h2,h3,h4⟩:=h
  show cond (inF _ _ _ _ _ && (inF _ _ _ _ _ && (inF _ _ _ _ _ && inF _ _ _ _ _)) && (okNP (nb r.x) (nb r.x).length && (okNP (nb r.y) (nb r.y).length && okNP (nb r.z) (nb r.z).length))) (some (isR ⟨toF _ _ _ _ _,toF _ _ _ _ _,toF _ _ _ _ _,toF _ _ _ _ _⟩ ⟨vB (nb r.x),vB (nb r.y),vB (nb r.z)⟩)) none = _
  rw [inF_of h1,inF_of h2,inF_of h3,inF_of h4,okNP_nb k.x,okNP_nb k.y,okNP_nb k.z,vB_nb,vB_nb,vB_nb]; rfl
noncomputable abbrev gI_DBa:Cg:=g_DBa (Nat) rRInv (fun t => nb t) (fun t => (nb t).length) (Nat) rRMul (fun t => nb t) (fun t => (nb t).length) (Nat) rRSub (fun t => nb t) (fun t => (nb t).length) (Nat) rRAdd (fun t => nb t) (fun t => (nb t).length) (Nat × Bool) rRRat (fun t => nb t.fst) (fun t => (nb t.fst).length) (fun t => t.2)
theorem gok_DBa:CfOk prog gI_DBa.c:=⟨gam_cons ok_RInv <| gam_cons ok_RMul <| gam_cons ok_RSub <| gam_cons ok_RAdd <| gam_cons ok_RRat <| gam_nil,fun _ _ h => by cases h⟩
abbrev i5N:Nat:=11579208923731619542357098500868790785326998466564056403945758400791312963990
abbrev uBN:Nat:=37053468555941182535542715202780130513046395093004980492626426882532201484767
abbrev vBN:Nat:=35320460721920060721965471946471712506633951349663716574434581141966314745466
theorem base_rat:(ratN uBN vBN).1 = bxN:=by
  have h:=(rat_eq (x:=fe uBN) (y:=fe vBN) (fe_ok _) (fe_ok _) (by decide +kernel) (by decide +kernel)).1
  rw [show fv (fe uBN) = uBN by decide +kernel,show fv (fe vBN) = vBN by decide +kernel] at h
  rw [← h]
  decide +kernel
theorem ok_RBase:CallOk prog n_opalineref07_Base sRBase:=by
  refine afunc_okE (g:=gI_DBa) (fu:=fun _ => 0) mixed gok_DBa h_opalineref07_Base (by kernel_rfl) ?_
  intro args t ht
  unfold sRBase at ht
  simp only at ht
  split at ht
  · obtain ⟨h1,_⟩:=ctrueS ht
    rw [Bool.and_eq_true] at h1
    obtain ⟨d,rfl,rfl,_,ed⟩:=okN_ok h1.1
    have hd:=Nat.eq_of_beq_eq_true h1.2
    rw [ed] at hd
    have i:=run_RInv (x:=5) (by decide)
    rw [inv_eq (k:=5) (j:=i5N) rfl (by decide) (by decide)] at i
    have m1:=run_RMul (x:=4) (y:=i5N) (by decide) (by decide)
    rw [show 4 * i5N % P25 = byN by decide] at m1
    have m2:=run_RMul (x:=byN) (y:=byN) (by decide) (by decide)
    rw [show byN * byN % P25 = 37053468555941182535542715202780130513046395093004980492626426882532201484768 by decide] at m2
    have s:=run_RSub (x:=37053468555941182535542715202780130513046395093004980492626426882532201484768) (y:=1) (by decide) (by decide)
    rw [show (37053468555941182535542715202780130513046395093004980492626426882532201484768 + P25 - 1) % P25 = uBN by decide] at s
    have m3:=run_RMul (x:=d) (y:=37053468555941182535542715202780130513046395093004980492626426882532201484768) (by rw [hd]; decide) (by decide)
    rw [show d * 37053468555941182535542715202780130513046395093004980492626426882532201484768 % P25 = 35320460721920060721965471946471712506633951349663716574434581141966314745465 by rw [hd]; decide +kernel] at m3
    have a:=run_RAdd (x:=35320460721920060721965471946471712506633951349663716574434581141966314745465) (y:=1) (by decide) (by decide)
    rw [show (35320460721920060721965471946471712506633951349663716574434581141966314745465 + 1) % P25 = vBN by decide] at a
    have r:=run_RRat (u:=uBN) (v:=vBN) (by decide) (by decide)
    have rb:=base_rat
    generalize ratN uBN vBN = R at *
    subst hd
    simp only [eN] at i m1 m2 s m3 a r
    refine (DBa_ev ..).trans ?_
    refine (congrArg (fun o => Option.bind o _) i).trans ?_
    rw [Option.bind_some]
    refine (congrArg (fun o => Option.bind o _) m1).trans ?_
    rw [Option.bind_some,m2,Option.bind_some]
    refine (congrArg (fun o => Option.bind o _) s).trans ?_
    rw [Option.bind_some,m3,Option.bind_some]
    refine (congrArg (fun o => Option.bind o _) a).trans ?_
    rw [Option.bind_some,r,Option.bind_some,rb]
    rfl
  · cases ht
theorem run_RBase:rRBase [eN dN] = some ():=by decide +kernel
end Go.Eng
