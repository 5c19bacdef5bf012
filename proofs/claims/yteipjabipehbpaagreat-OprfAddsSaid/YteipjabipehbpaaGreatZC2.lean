import Derived.Test.YteipjabipehbpaaGreatZF2
namespace Go.Eng
open Go.IntKind (u64 i64 u8)
noncomputable section
open Go Go.Proofs
set_option linter.all false
abbrev LN:Nat:=7237005577332262213973186563042994240857116359379907606001950938285454250989
def eW (n:Nat):AV:=.agg (.ints .u64 (lim 8 n)) 8
def sOrd:Summ where
 T:=Unit
 run:=fun
  | []=>some ()
  | _=>none
 enc:=fun _=>eW LN
def rOrd:List AV->Option Unit:=sOrd.run
def sRedL:Summ:={ T:=Nat,run:=run1 fun a=>val a%LN,enc:=eW }
def rRedL:List AV->Option Nat:=sRedL.run
def sScOf:Summ where
 T:=Nat
 run:=fun
  | [.c (.s (.pl (.int .u64 n)))]=>cond (in64 n) (some n.toNat) none
  | _=>none
 enc:=eW
def rScOf:List AV->Option Nat:=sScOf.run
def run2c {T:Type} (F:List Int->List Int->T) (C:List Int->List Int->Bool):List AV->Option T
 | [.c (.s (.pl (.agg (.ints .u64 a) 8))),.c (.s (.pl (.agg (.ints .u64 b) 8)))]=>cond (ok8 a && ok8 b && C a b) (some (F a b)) none
 | _=>none
def run1c {T:Type} (F:List Int->T) (C:List Int->Bool):List AV->Option T
 | [.c (.s (.pl (.agg (.ints .u64 a) 8)))]=>cond (ok8 a && C a) (some (F a)) none
 | _=>none
abbrev M256:Nat:=115792089237316195423570985008687907853269984665640564039457584007913129639936
def lt256 (a:List Int):Bool:=Nat.blt (val a) M256
def sScMul:Summ:={ T:=Nat,run:=run2c (fun a b=>val a*val b%LN) (fun a b=>lt256 a && lt256 b),enc:=eW }
def rScMul:List AV->Option Nat:=sScMul.run
def sScAdd:Summ:={ T:=Nat,run:=run2c (fun a b=>(val a+val b)%LN) (fun a b=>lt256 a && lt256 b),enc:=eW }
def rScAdd:List AV->Option Nat:=sScAdd.run
def invL (a:Nat):Nat->Nat->Nat
 | 0,out=>out
 | i+1,out=>invL a i (cond (Nat.beq ((LN - 2) / 2 ^ i%2) 1) (out*out%LN*a%LN) (out*out%LN))
def sScInv:Summ:={ T:=Nat,run:=run1c (fun a=>invL (val a) 253 1) lt256,enc:=eW }
def rScInv:List AV->Option Nat:=sScInv.run
def sScZero:Summ:={ T:=Bool,run:=run1 fun a=>Nat.beq (val a) 0,enc:=fun t=>.bool t }
def rScZero:List AV->Option Bool:=sScZero.run
def sScBytes:Summ:={ T:=List Int,run:=run1 fun a=>lo 32 (val a),enc:=eB32 }
def rScBytes:List AV->Option (List Int):=sScBytes.run
def sSame6:Summ:={ T:=Bool,run:=run2 fun a b=>decide (lo 32 (val a)=lo 32 (val b)),enc:=fun t=>.bool t }
def rSame6:List AV->Option Bool:=sSame6.run
structure Pt where
 x:Fe
 y:Fe
 z:Fe
 t:Fe
def eP (p:Pt):AV:=.agg (.ints .u64 [(p.x.a:Int),p.x.b,p.x.c,p.x.d,p.x.e,p.y.a,p.y.b,p.y.c,p.y.d,p.y.e,p.z.a,p.z.b,p.z.c,p.z.d,p.z.e,p.t.a,p.t.b,p.t.c,p.t.d,p.t.e]) 20
def runP1 {T:Type} (F:Pt->T):List AV->Option T
 | [.c (.s (.pl (.agg (.ints .u64 [a,b,c,d,e,f,g,h,i,j,k,l,m,n,o,p,q,r,s,t]) 20)))]=>
  cond (inF a b c d e && (inF f g h i j && (inF k l m n o && inF p q r s t))) (some (F ⟨toF a b c d e,toF f g h i j,toF k l m n o,toF p q r s t⟩)) none
 | _=>none
def runP2 {T:Type} (F:Pt->Pt->T):List AV->Option T
 | [.c (.s (.pl (.agg (.ints .u64 [a,b,c,d,e,f,g,h,i,j,k,l,m,n,o,p,q,r,s,t]) 20))),.c (.s (.pl (.agg (.ints .u64 [a',b',c',d',e',f',g',h',i',j',k',l',m',n',o',p',q',r',s',t']) 20)))]=>
  cond (inF a b c d e && (inF f g h i j && (inF k l m n o && inF p q r s t)) && (inF a' b' c' d' e' && (inF f' g' h' i' j' && (inF k' l' m' n' o' && inF p' q' r' s' t'))))
   (some (F ⟨toF a b c d e,toF f g h i j,toF k l m n o,toF p q r s t⟩ ⟨toF a' b' c' d' e',toF f' g' h' i' j',toF k' l' m' n' o',toF p' q' r' s' t'⟩)) none
 | _=>none
def runP2F {T:Type} (F:Pt->Pt->Fe->T):List AV->Option T
 | [.c (.s (.pl (.agg (.ints .u64 [a,b,c,d,e,f,g,h,i,j,k,l,m,n,o,p,q,r,s,t]) 20))),.c (.s (.pl (.agg (.ints .u64 [a',b',c',d',e',f',g',h',i',j',k',l',m',n',o',p',q',r',s',t']) 20))),.c (.s (.pl (.agg (.ints .u64 [u0,u1,u2,u3,u4]) 5)))]=>
  cond (inF a b c d e && (inF f g h i j && (inF k l m n o && inF p q r s t)) && (inF a' b' c' d' e' && (inF f' g' h' i' j' && (inF k' l' m' n' o' && inF p' q' r' s' t'))) && inF u0 u1 u2 u3 u4)
   (some (F ⟨toF a b c d e,toF f g h i j,toF k l m n o,toF p q r s t⟩ ⟨toF a' b' c' d' e',toF f' g' h' i' j',toF k' l' m' n' o',toF p' q' r' s' t'⟩ (toF u0 u1 u2 u3 u4))) none
 | _=>none
def runF4 {T:Type} (F:Fe->Fe->Fe->Fe->T):List AV->Option T
 | [.c (.s (.pl (.agg (.ints .u64 [a,b,c,d,e]) 5))),.c (.s (.pl (.agg (.ints .u64 [f,g,h,i,j]) 5))),.c (.s (.pl (.agg (.ints .u64 [k,l,m,n,o]) 5))),.c (.s (.pl (.agg (.ints .u64 [p,q,r,s,t]) 5)))]=>
  cond (inF a b c d e && (inF f g h i j && (inF k l m n o && inF p q r s t))) (some (F (toF a b c d e) (toF f g h i j) (toF k l m n o) (toF p q r s t))) none
 | _=>none
def dF:Fe:=fe 37095705934669439343138083508754565189542113879843219016388785533085940283555
def sCD:Summ where
 T:=Unit
 run:=fun
  | []=>some ()
  | _=>none
 enc:=fun _=>eF dF
def rCD:List AV->Option Unit:=sCD.run
def plainP (x y:Fe):Pt:=⟨x,y,fe 1,mulF x y⟩
def sPlain:Summ:={ T:=Pt,run:=runF2 plainP,enc:=eP }
def rPlain:List AV->Option Pt:=sPlain.run
def neutP:Pt:=plainP (fe 0) (fe 1)
def run0 {T:Type} (t:T):List AV->Option T
 | []=>some t
 | _=>none
def sNeut:Summ:={ T:=Pt,run:=run0 neutP,enc:=eP }
def rNeut:List AV->Option Pt:=sNeut.run
def baseY:Fe:=mulF (fe 4) (invF (fe 5))
def baseX:Fe:=(ratF (subF (mulF baseY baseY) (fe 1)) (addF (mulF dF (mulF baseY baseY)) (fe 1))).1
def baseP:Pt:=plainP baseX baseY
def sBase:Summ:={ T:=Pt,run:=run0 baseP,enc:=eP }
def rBase:List AV->Option Pt:=sBase.run
def ePE (t:Pt × Int):AV:=.tup [.s (.pl (.agg (.ints .u64 [(t.1.x.a:Int),t.1.x.b,t.1.x.c,t.1.x.d,t.1.x.e,t.1.y.a,t.1.y.b,t.1.y.c,t.1.y.d,t.1.y.e,t.1.z.a,t.1.z.b,t.1.z.c,t.1.z.d,t.1.z.e,t.1.t.a,t.1.t.b,t.1.t.c,t.1.t.d,t.1.t.e]) 20)),.s (.pl (.int .i64 t.2))]
def joinP (e f g h:Fe):Pt:=⟨mulF e f,mulF g h,mulF f g,mulF e h⟩
def sJn:Summ:={ T:=Pt,run:=runF4 joinP,enc:=eP }
def rJn:List AV->Option Pt:=sJn.run
def addP (p q:Pt) (w:Fe):Pt :=
 joinP (subF (mulF (addF p.y p.x) (addF q.y q.x)) (mulF (subF p.y p.x) (subF q.y q.x))) (subF (mulF (addF p.z p.z) q.z) (mulF (mulF p.t w) q.t))
  (addF (mulF (addF p.z p.z) q.z) (mulF (mulF p.t w) q.t)) (addF (mulF (addF p.y p.x) (addF q.y q.x)) (mulF (subF p.y p.x) (subF q.y q.x)))
def sadd:Summ:={ T:=Pt,run:=runP2F addP,enc:=eP }
def radd:List AV->Option Pt:=sadd.run
def d2F:Fe:=addF dF dF
def sPAdd:Summ:={ T:=Pt,run:=runP2 fun p q=>addP p q d2F,enc:=eP }
def rPAdd:List AV->Option Pt:=sPAdd.run
def dblP (p:Pt):Pt :=
 joinP (subF (addF (mulF p.x p.x) (mulF p.y p.y)) (mulF (addF p.x p.y) (addF p.x p.y))) (addF (addF (mulF p.z p.z) (mulF p.z p.z)) (subF (mulF p.x p.x) (mulF p.y p.y)))
  (subF (mulF p.x p.x) (mulF p.y p.y)) (addF (mulF p.x p.x) (mulF p.y p.y))
def sDbl:Summ:={ T:=Pt,run:=runP1 dblP,enc:=eP }
def rDbl:List AV->Option Pt:=sDbl.run
def negP (p:Pt):Pt:=⟨subF f0 p.x,p.y,p.z,subF f0 p.t⟩
def sPNeg:Summ:={ T:=Pt,run:=runP1 negP,enc:=eP }
def rPNeg:List AV->Option Pt:=sPNeg.run
def sPY:Summ:={ T:=Fe,run:=runP1 fun p=>mulF p.y (invF p.z),enc:=eF }
def rPY:List AV->Option Fe:=sPY.run
def samP (p q:Pt):Bool:=samF (mulF p.x q.z) (mulF q.x p.z) && samF (mulF p.y q.z) (mulF q.y p.z)
def sPSam:Summ:={ T:=Bool,run:=runP2 samP,enc:=fun t=>.bool t }
def rPSam:List AV->Option Bool:=sPSam.run
section
variable (T0:Type) (R0:List AV->Option T0) (f0a:T0->List Int) (f0b:T0->Int) (T1:Type) (R1:List AV->Option T1) (f1a:T1->List Int) (T2:Type) (R2:List AV->Option T2) (f2a:T2->List Int) (T3:Type) (R3:List AV->Option T3) (f3a:T3->List Int) (f3b:T3->Bool)
def g_COr:Cg:=⟨⟨gam [(nF122,⟨R0,fun t=>AV.tup [.s (.pl (.agg (.ints .u64 (f0a t)) 8)),.s (.pl (.int .i64 (f0b t)))]⟩),(nF79,⟨R1,fun t=>AV.agg (.ints .u64 (f1a t)) 8⟩),(nF123,⟨R2,fun t=>AV.agg (.ints .u64 (f2a t)) 8⟩),(nF49,⟨R3,fun t=>AV.tup [.s (.pl (.agg (.ints .u64 (f3a t)) 8)),.s (.pl (.bool (f3b t)))]⟩)],[],noE⟩,[]⟩
theorem COr_ev (fu:Nat):afunc prog fF93 (g_COr T0 R0 f0a f0b T1 R1 f1a T2 R2 f2a T3 R3 f3a f3b) fu []=(R0 [.str [(50:UInt8),55,55,52,50,51,49,55,55,55,55,51,55,50,51,53,51,53,51,53,56,53,49,57,51,55,55,57,48,56,56,51,54,52,56,52,57,51]]).bind fun t=>(R1 [.int .u64 (1:Int)]).bind fun t_1=>(R2 [.agg (.ints .u64 (f1a t_1)) 8,.int .i64 (252:Int)]).bind fun t_2=>(R3 [.agg (.ints .u64 (f2a t_2)) 8,.agg (.ints .u64 (f0a t)) 8]).bind fun t=>some (AV.agg (.ints .u64 (f3a t)) 8):=by kernel_rfl
end
section
variable (T0:Type) (R0:List AV->Option T0) (T1:Type) (R1:List AV->Option T1) (f1a:T1->Int) (T2:Type) (R2:List AV->Option T2) (f2a:T2->List Int) (f2b:T2->Bool) (T3:Type) (R3:List AV->Option T3) (f3a:T3->Int) (T4:Type) (R4:List AV->Option T4) (f4a:T4->Int) (T5:Type) (R5:List AV->Option T5) (f5a:T5->List Int) (f5b:T5->Bool)
def g_CRd:Cg:=⟨⟨gam [(nF93,⟨R0,fun t=>AV.agg (.ints .u64 (lim 8 7237005577332262213973186563042994240857116359379907606001950938285454250989)) 8⟩),(nF94,⟨R1,fun t=>AV.int .i64 (f1a t)⟩),(nF49,⟨R2,fun t=>AV.tup [.s (.pl (.agg (.ints .u64 (f2a t)) 8)),.s (.pl (.bool (f2b t)))]⟩),(nF95,⟨R3,fun t=>AV.int .u64 (f3a t)⟩),(nF96,⟨R4,fun t=>AV.int .i64 (f4a t)⟩),(nF97,⟨R5,fun t=>AV.tup [.s (.pl (.agg (.ints .u64 (f5a t)) 8)),.s (.pl (.bool (f5b t)))]⟩)],[],noE⟩,[(5,[1,2,3,4,5],[2,4])]⟩
def CRd_s1 (v5:Int) (x_0 x_1 x_2 x_3:List Int):St:={ tm:=[(1,.s (.ptr 0 0 8)),(2,.s (.ptr 1 0 8)),(3,.s (.ptr 2 0 8)),(4,.s (.ptr 3 0 8)),(5,.int .i64 v5)],hp:=[(0,{ ty:=27,n:=8,row:=Row.t (.ints .u64 x_0) }),(1,{ ty:=29,n:=8,row:=Row.t (.ints .u64 x_1) }),(2,{ ty:=27,n:=8,row:=Row.t (.ints .u64 x_2) }),(3,{ ty:=27,n:=8,row:=Row.t (.ints .u64 x_3) })],nx:=4,sz:=39 }
def CRd_b1:Code:=bodyL (codeAt [1,1,1,0,1,2] (codeF fF50))
def CRd_k1 (fu:Nat):=kAt prog (g_CRd T0 R0 T1 R1 f1a T2 R2 f2a f2b T3 R3 f3a T4 R4 f4a T5 R5 f5a f5b) fu [1,1,1,0,1,2] (codeF fF50) (kFin prog fF50)
abbrev CRd_L1 (fu:Nat) (v5:Int) (x_0 x_1 x_2 x_3:List Int):=lpA prog (g_CRd T0 R0 T1 R1 f1a T2 R2 f2a f2b T3 R3 f3a T4 R4 f4a T5 R5 f5a f5b) fu CRd_b1 (CRd_k1 T0 R0 T1 R1 f1a T2 R2 f2a f2b T3 R3 f3a T4 R4 f4a T5 R5 f5a f5b fu ) fu (some (CRd_s1 v5 x_0 x_1 x_2 x_3))
theorem CRd_ev (fu:Nat) (a:List Int):afunc prog fF50 (g_CRd T0 R0 T1 R1 f1a T2 R2 f2a f2b T3 R3 f3a T4 R4 f4a T5 R5 f5a f5b) fu [W8 a]=(R0 []).bind fun t=>(R1 [.agg (.ints .u64 a) 8]).bind fun t=>CRd_L1 T0 R0 T1 R1 f1a T2 R2 f2a f2b T3 R3 f3a T4 R4 f4a T5 R5 f5a f5b fu (i64.wrap (f1a t - (1:Int))) a [(0:Int),0,0,0,0,0,0,0] (lim 8 7237005577332262213973186563042994240857116359379907606001950938285454250989) [(0:Int),0,0,0,0,0,0,0]:=by kernel_rfl
def CRd_o1e0 (x_0 x_1:List Int):St:={ tm:=[(2,.s (.ptr 0 0 8)),(4,.s (.ptr 1 0 8))],hp:=[(0,{ ty:=29,n:=8,row:=Row.t (.ints .u64 x_0) }),(1,{ ty:=27,n:=8,row:=Row.t (.ints .u64 x_1) })],nx:=2,sz:=39 }
theorem CRd_r1 {β:Type} (fu:Nat) (G:Option St->Option β) (H:Ex->Option St->Option β) (v5:Int) (x_0 x_1 x_2 x_3:List Int):lpR prog (g_CRd T0 R0 T1 R1 f1a T2 R2 f2a f2b T3 R3 f3a T4 R4 f4a T5 R5 f5a f5b) fu CRd_b1 G H (CRd_s1 v5 x_0 x_1 x_2 x_3)=bif decide ((0:Int) <= v5) then (R2 [.agg (.ints .u64 x_3) 8,.agg (.ints .u64 x_3) 8]).bind fun t=>(R3 [.agg (.ints .u64 x_0) 8,.int .i64 v5]).bind fun t_1=>(R4 [.agg (.ints .u64 ((f2a t).set 0 (bOr .u64 ((f2a t).getD 0 (0:Int)) (f3a t_1)))) 8,.agg (.ints .u64 x_2) 8]).bind fun t_2=>bif decide ((0:Int) <= f4a t_2) then (R5 [.agg (.ints .u64 ((f2a t).set 0 (bOr .u64 ((f2a t).getD 0 (0:Int)) (f3a t_1)))) 8,.agg (.ints .u64 x_2) 8]).bind fun t=>G (some (CRd_s1 (i64.wrap (v5 - (1:Int))) x_0 x_1 x_2 (f5a t))) else G (some (CRd_s1 (i64.wrap (v5 - (1:Int))) x_0 x_1 x_2 ((f2a t).set 0 (bOr .u64 ((f2a t).getD 0 (0:Int)) (f3a t_1))))) else H (Ex.exit 0) (some (CRd_o1e0 x_1 x_3)):=by kernel_rfl
theorem CRd_c1e0 (fu:Nat) (x_0 x_1:List Int):CRd_k1 T0 R0 T1 R1 f1a T2 R2 f2a f2b T3 R3 f3a T4 R4 f4a T5 R5 f5a f5b fu  (Ex.exit 0) (CRd_o1e0 x_0 x_1)=some (AV.agg (.ints .u64 x_1) 8):=by kernel_rfl
end
section
variable (T0:Type) (R0:List AV->Option T0) (f0a:T0->List Int)
def g_COf:Cg:=⟨⟨gam [(nF79,⟨R0,fun t=>AV.agg (.ints .u64 (f0a t)) 8⟩)],[],noE⟩,[]⟩
theorem COf_ev (fu:Nat) (n:Int):afunc prog fF31 (g_COf T0 R0 f0a) fu [.int .u64 n]=(R0 [.int .u64 n]).bind fun t=>some (AV.agg (.ints .u64 (f0a t)) 8):=by kernel_rfl
end
section
variable (T0:Type) (R0:List AV->Option T0) (f0a:T0->List Int) (f0b:T0->Bool) (T1:Type) (R1:List AV->Option T1) (f1a:T1->List Int)
def g_CMu:Cg:=⟨⟨gam [(nF57,⟨R0,fun t=>AV.tup [.s (.pl (.agg (.ints .u64 (f0a t)) 8)),.s (.pl (.bool (f0b t)))]⟩),(nF50,⟨R1,fun t=>AV.agg (.ints .u64 (f1a t)) 8⟩)],[],noE⟩,[]⟩
theorem CMu_ev (fu:Nat) (a b:List Int):afunc prog fF14 (g_CMu T0 R0 f0a f0b T1 R1 f1a) fu [W8 a,W8 b]=(R0 [.agg (.ints .u64 a) 8,.agg (.ints .u64 b) 8]).bind fun t=>(R1 [.agg (.ints .u64 (f0a t)) 8]).bind fun t=>some (AV.agg (.ints .u64 (f1a t)) 8):=by kernel_rfl
end
section
variable (T0:Type) (R0:List AV->Option T0) (T1:Type) (R1:List AV->Option T1) (f1a:T1->List Int) (T2:Type) (R2:List AV->Option T2) (f2a:T2->List Int) (f2b:T2->Bool) (T3:Type) (R3:List AV->Option T3) (f3a:T3->List Int) (T4:Type) (R4:List AV->Option T4) (f4a:T4->List Int) (T5:Type) (R5:List AV->Option T5) (f5a:T5->Int)
def g_CIn:Cg:=⟨⟨gam [(nF93,⟨R0,fun t=>AV.agg (.ints .u64 (lim 8 7237005577332262213973186563042994240857116359379907606001950938285454250989)) 8⟩),(nF79,⟨R1,fun t=>AV.agg (.ints .u64 (f1a t)) 8⟩),(nF97,⟨R2,fun t=>AV.tup [.s (.pl (.agg (.ints .u64 (f2a t)) 8)),.s (.pl (.bool (f2b t)))]⟩),(nF31,⟨R3,fun t=>AV.agg (.ints .u64 (f3a t)) 8⟩),(nF14,⟨R4,fun t=>AV.agg (.ints .u64 (f4a t)) 8⟩),(nF95,⟨R5,fun t=>AV.int .u64 (f5a t)⟩)],[],noE⟩,[(5,[1,2,3,5,6],[2,5])]⟩
def CIn_s1 (v6:Int) (x_0 x_1 x_2 x_3:List Int):St:={ tm:=[(1,.s (.ptr 0 0 8)),(2,.s (.ptr 1 0 8)),(3,.s (.ptr 2 0 8)),(5,.s (.ptr 3 0 8)),(6,.int .i64 v6)],hp:=[(0,{ ty:=29,n:=8,row:=Row.t (.ints .u64 x_0) }),(1,{ ty:=29,n:=8,row:=Row.t (.ints .u64 x_1) }),(2,{ ty:=27,n:=8,row:=Row.t (.ints .u64 x_2) }),(3,{ ty:=29,n:=8,row:=Row.t (.ints .u64 x_3) })],nx:=4,sz:=29 }
def CIn_b1:Code:=bodyL (codeAt [1,1,1,0,1,2] (codeF fF82))
def CIn_k1 (fu:Nat):=kAt prog (g_CIn T0 R0 T1 R1 f1a T2 R2 f2a f2b T3 R3 f3a T4 R4 f4a T5 R5 f5a) fu [1,1,1,0,1,2] (codeF fF82) (kFin prog fF82)
abbrev CIn_L1 (fu:Nat) (v6:Int) (x_0 x_1 x_2 x_3:List Int):=lpA prog (g_CIn T0 R0 T1 R1 f1a T2 R2 f2a f2b T3 R3 f3a T4 R4 f4a T5 R5 f5a) fu CIn_b1 (CIn_k1 T0 R0 T1 R1 f1a T2 R2 f2a f2b T3 R3 f3a T4 R4 f4a T5 R5 f5a fu ) fu (some (CIn_s1 v6 x_0 x_1 x_2 x_3))
theorem CIn_ev (fu:Nat) (a:List Int):afunc prog fF82 (g_CIn T0 R0 T1 R1 f1a T2 R2 f2a f2b T3 R3 f3a T4 R4 f4a T5 R5 f5a) fu [W8 a]=(R0 []).bind fun t=>(R1 [.int .u64 (2:Int)]).bind fun t=>(R2 [.agg (.ints .u64 (lim 8 7237005577332262213973186563042994240857116359379907606001950938285454250989)) 8,.agg (.ints .u64 (f1a t)) 8]).bind fun t=>(R3 [.int .u64 (1:Int)]).bind fun t_1=>CIn_L1 T0 R0 T1 R1 f1a T2 R2 f2a f2b T3 R3 f3a T4 R4 f4a T5 R5 f5a fu (252:Int) a [(0:Int),0,0,0,0,0,0,0] (f2a t) (f3a t_1):=by kernel_rfl
def CIn_o1e0 (x_0 x_1:List Int):St:={ tm:=[(2,.s (.ptr 0 0 8)),(5,.s (.ptr 1 0 8))],hp:=[(0,{ ty:=29,n:=8,row:=Row.t (.ints .u64 x_0) }),(1,{ ty:=29,n:=8,row:=Row.t (.ints .u64 x_1) })],nx:=2,sz:=29 }
theorem CIn_r1 {β:Type} (fu:Nat) (G:Option St->Option β) (H:Ex->Option St->Option β) (v6:Int) (x_0 x_1 x_2 x_3:List Int):lpR prog (g_CIn T0 R0 T1 R1 f1a T2 R2 f2a f2b T3 R3 f3a T4 R4 f4a T5 R5 f5a) fu CIn_b1 G H (CIn_s1 v6 x_0 x_1 x_2 x_3)=bif decide ((0:Int) <= v6) then (R4 [.agg (.ints .u64 x_3) 8,.agg (.ints .u64 x_3) 8]).bind fun t=>(R5 [.agg (.ints .u64 x_2) 8,.int .i64 v6]).bind fun t_1=>bif decide (f5a t_1=(1:Int)) then (R4 [.agg (.ints .u64 (f4a t)) 8,.agg (.ints .u64 x_0) 8]).bind fun t=>G (some (CIn_s1 (i64.wrap (v6 - (1:Int))) x_0 x_1 x_2 (f4a t))) else G (some (CIn_s1 (i64.wrap (v6 - (1:Int))) x_0 x_1 x_2 (f4a t))) else H (Ex.exit 0) (some (CIn_o1e0 x_1 x_3)):=by kernel_rfl
theorem CIn_c1e0 (fu:Nat) (x_0 x_1:List Int):CIn_k1 T0 R0 T1 R1 f1a T2 R2 f2a f2b T3 R3 f3a T4 R4 f4a T5 R5 f5a fu  (Ex.exit 0) (CIn_o1e0 x_0 x_1)=some (AV.agg (.ints .u64 x_1) 8):=by kernel_rfl
end
def g_CZe:Cg:=⟨⟨gam [],[],noE⟩,[]⟩
theorem CZe_ev (fu:Nat) (a b c d e f g h:Int):afunc prog fF9 g_CZe fu [W8 [a,b,c,d,e,f,g,h]]=some (AV.bool (decide ([a,b,c,d,e,f,g,h]=[(0:Int),0,0,0,0,0,0,0]))):=by kernel_rfl
section
variable (T0:Type) (R0:List AV->Option T0) (f0a:T0->List UInt8)
def g_CBy:Cg:=⟨⟨gam [(nF165,⟨R0,fun t=>AV.str (f0a t)⟩)],[],noE⟩,[]⟩
theorem CBy_ev (fu:Nat) (a:List Int):afunc prog fF148 (g_CBy T0 R0 f0a) fu [W8 a]=(R0 [.agg (.ints .u64 a) 8]).bind fun t=>bif decide ((0:Int) <= (0:Int) /\ (0:Int) <= (32:Int) /\ (32:Int) <= (↑(f0a t).length:Int)) then bif decide ((sl (f0a t) (0:Int) (32:Int)).length <= 1099511627776) then bif Nat.ble 32 (sl (f0a t) (0:Int) (32:Int)).length then some (AV.agg (.ints .u8 (List.take 32 (List.drop 0 (List.map ofB (sl (f0a t) (0:Int) (32:Int)))))) 32) else none else none else none:=by kernel_rfl
end
section
variable (T0:Type) (R0:List AV->Option T0) (f0a:T0->List Int) (f0b:T0->Bool) (T1:Type) (R1:List AV->Option T1) (f1a:T1->List Int)
def g_CAdS:Cg:=⟨⟨gam [(nF49,⟨R0,fun t=>AV.tup [.s (.pl (.agg (.ints .u64 (f0a t)) 8)),.s (.pl (.bool (f0b t)))]⟩),(nF50,⟨R1,fun t=>AV.agg (.ints .u64 (f1a t)) 8⟩)],[],noE⟩,[]⟩
theorem CAdS_ev (fu:Nat) (a b:List Int):afunc prog fF10 (g_CAdS T0 R0 f0a f0b T1 R1 f1a) fu [W8 a,W8 b]=(R0 [.agg (.ints .u64 a) 8,.agg (.ints .u64 b) 8]).bind fun t=>(R1 [.agg (.ints .u64 (f0a t)) 8]).bind fun t=>some (AV.agg (.ints .u64 (f1a t)) 8):=by kernel_rfl
end
section
variable (T0:Type) (R0:List AV->Option T0) (f0a:T0->List Int)
def g_CSm:Cg:=⟨⟨gam [(nF148,⟨R0,fun t=>AV.agg (.ints .u8 (f0a t)) 32⟩)],[],noE⟩,[]⟩
theorem CSm_ev (fu:Nat) (a b:List Int):afunc prog fF119 (g_CSm T0 R0 f0a) fu [W8 a,W8 b]=(R0 [.agg (.ints .u64 a) 8]).bind fun t=>(R0 [.agg (.ints .u64 b) 8]).bind fun t_1=>some (AV.bool (decide (f0a t=f0a t_1))):=by kernel_rfl
end
section
variable (T0:Type) (R0:List AV->Option T0) (f0a:T0->List Int) (T1:Type) (R1:List AV->Option T1) (f1a:T1->List Int) (T2:Type) (R2:List AV->Option T2) (T3:Type) (R3:List AV->Option T3) (f3a:T3->List Int) (T4:Type) (R4:List AV->Option T4) (f4a:T4->Bool) (T5:Type) (R5:List AV->Option T5) (f5a:T5->Bool)
def g_CAw6:Cg:=⟨⟨gam [(nF31,⟨R0,fun t=>AV.agg (.ints .u64 (f0a t)) 8⟩),(nF82,⟨R1,fun t=>AV.agg (.ints .u64 (f1a t)) 8⟩),(nF118,⟨R2,fun t=>AV.bool (true)⟩),(nF14,⟨R3,fun t=>AV.agg (.ints .u64 (f3a t)) 8⟩),(nF119,⟨R4,fun t=>AV.bool (f4a t)⟩),(nF9,⟨R5,fun t=>AV.bool (f5a t)⟩)],[],noE⟩,[]⟩
theorem CAw6_ev (fu:Nat):afunc prog fF76 (g_CAw6 T0 R0 f0a T1 R1 f1a T2 R2 T3 R3 f3a T4 R4 f4a T5 R5 f5a) fu []=(R0 [.int .u64 (2:Int)]).bind fun t=>(R1 [.agg (.ints .u64 (f0a t)) 8]).bind fun t=>(R2 []).bind fun t_1=>(R0 [.int .u64 (2:Int)]).bind fun t_2=>(R3 [.agg (.ints .u64 (f1a t)) 8,.agg (.ints .u64 (f0a t_2)) 8]).bind fun t_3=>(R0 [.int .u64 (1:Int)]).bind fun t_4=>(R4 [.agg (.ints .u64 (f3a t_3)) 8,.agg (.ints .u64 (f0a t_4)) 8]).bind fun t_5=>bif f4a t_5 then (R5 [.agg (.ints .u64 (f1a t)) 8]).bind fun t=>some (AV.bool !f5a t) else some (AV.bool false):=by kernel_rfl
end
section
variable (T0:Type) (R0:List AV->Option T0)
def g_CAW6:Cg:=⟨⟨gam [(nF76,⟨R0,fun t=>AV.bool (true)⟩)],[],noE⟩,[]⟩
theorem CAW6_ev (fu:Nat):afunc prog fF28 (g_CAW6 T0 R0) fu []=(R0 []).bind fun t=>some (AV.bool true):=by kernel_rfl
end
section
variable (T0:Type) (R0:List AV->Option T0)
def g_CAW5:Cg:=⟨⟨gam [(nF178,⟨R0,fun t=>AV.bool (true)⟩)],[],noE⟩,[]⟩
theorem CAW5_ev (fu:Nat):afunc prog fF166 (g_CAW5 T0 R0) fu []=(R0 []).bind fun t=>some (AV.bool true):=by kernel_rfl
end
set_option maxRecDepth 4000
theorem or_b1 {x b:Nat} (hx:x%2=0) (hb:b < 2):x ||| b=x+b:=by
 have h:=Nat.two_pow_add_eq_or_of_lt (i:=1) (b:=b) (by omega) (x / 2)
 have e:2 ^ 1*(x / 2)=x:=by omega
 rw [e] at h
 exact h.symm
theorem or_low {n b:Nat} (hn:n%2=0) (hb:b < 2):(lim 8 n).set 0 (bOr .u64 ((lim 8 n).getD 0 0) (b:Int))=lim 8 (n+b):=by
 show bOr .u64 ((n%18446744073709551616:Nat):Int) (b:Int) :: lim 7 (n / 18446744073709551616)=(((n+b)%18446744073709551616:Nat):Int) :: lim 7 ((n+b) / 18446744073709551616)
 rw [or64 _ _ (Nat.mod_lt _ (by decide)) (by omega),or_b1 (by omega) hb]
 have e1:(n+b)%18446744073709551616=n%18446744073709551616+b:=by omega
 have e2:(n+b) / 18446744073709551616=n / 18446744073709551616:=by omega
 rw [e1,e2]
theorem valM {n:Nat} (h:n < M512):val (lim 8 n)=n:=by rw [val_lim8]; exact Nat.mod_eq_of_lt h
theorem LN_lt:LN < M512:=by decide +kernel
abbrev gI_COr:Cg:=g_COr (Nat × Int) rDecimal (fun t=>lim 8 t.fst) (fun t=>t.snd) (Int) rOf (fun t=>[t,0,0,0,0,0,0,0]) (Nat) rShift (fun t=>lim 8 t) (Nat × Bool) rAdd (fun t=>lim 8 t.fst) (fun t=>t.snd)
theorem gok_COr:CfOk prog gI_COr.c:=⟨gam_cons ok_Decimal <| gam_cons ok_Of <| gam_cons ok_Shift <| gam_cons ok_Add <| gam_nil,fun _ _ h=>by cases h⟩
theorem ok_Ord:CallOk prog nF93 sOrd:=by
 refine afunc_okE (g:=gI_COr) (fu:=fun _=>0) mixed gok_COr hF93 (by kernel_rfl) ?_
 intro args t ht
 unfold sOrd at ht
 simp only at ht
 split at ht
 ·refine (COr_ev ..).trans ?_
  have d1:=run_Decimal (s:=[50,55,55,52,50,51,49,55,55,55,55,51,55,50,51,53,51,53,51,53,56,53,49,57,51,55,55,57,48,56,56,51,54,52,56,52,57,51]) (by decide +kernel)
  rw [show decE [50,55,55,52,50,51,49,55,55,55,55,51,55,50,51,53,51,53,51,53,56,53,49,57,51,55,55,57,48,56,56,51,54,52,56,52,57,51]=(27742317777372353535851937790883648493,0) by decide +kernel] at d1
  have s1:rShift [AV.agg (TRow.ints u64 [1,0,0,0,0,0,0,0]) 8,AV.int i64 252]=some 7237005577332262213973186563042994240829374041602535252466099000494570602496:=(run_Shift (b:=[1,0,0,0,0,0,0,0]) (by decide) 252).trans (by decide +kernel)
  have a1:rAdd [AV.agg (TRow.ints u64 (lim 8 7237005577332262213973186563042994240829374041602535252466099000494570602496)) 8,AV.agg (TRow.ints u64 (lim 8 27742317777372353535851937790883648493)) 8]=some (LN,true) :=
   (run_Add (ok8_lim _) (ok8_lim _)).trans (by decide +kernel)
  have o1:rOf [AV.int u64 1]=some 1:=rfl
  refine (congrArg (fun o=>Option.bind o _) d1).trans ?_
  rw [Option.bind_some,o1,Option.bind_some,s1,Option.bind_some,a1]
  rfl
 ·cases ht
abbrev gI_CRd:Cg:=g_CRd (PUnit) rOrd (Nat) rLen (fun t=>↑t) (Nat × Bool) rAdd (fun t=>lim 8 t.fst) (fun t=>t.snd) (Nat) rBit (fun t=>↑t) (Int) rCmp (fun t=>t) (Nat × Bool) rSub (fun t=>lim 8 t.fst) (fun t=>t.snd)
theorem gok_CRd:CfOk prog gI_CRd.c:=⟨gam_cons ok_Ord <| gam_cons ok_Len <| gam_cons ok_Add <| gam_cons ok_Bit <| gam_cons ok_Cmp <| gam_cons ok_Sub <| gam_nil,fun _ _ h=>by cases h⟩
theorem bit_step (n i:Nat):n / 2 ^ i=2*(n / 2 ^ (i+1))+n / 2 ^ i%2:=by
 rw [Nat.pow_succ,<-Nat.div_div_eq_div_mul]
 omega
theorem red_step {q b:Nat}:(2*q+b)%LN=(2*(q%LN)+b)%LN:=by
 rw [Nat.add_mod,Nat.mul_mod,Nat.add_mod (2*(q%LN)),Nat.mul_mod 2 (q%LN),Nat.mod_mod]
theorem rdL_loop {a:List Int} (ha:ok8 a=true) (fu:Nat):∀ (i n:Nat),i <= 512->i < n ->
  lpA prog gI_CRd fu CRd_b1 (CRd_k1 PUnit rOrd Nat rLen (fun t=>↑t) (Nat × Bool) rAdd (fun t=>lim 8 t.fst) (fun t=>t.snd) Nat rBit (fun t=>↑t) Int rCmp (fun t=>t) (Nat × Bool) rSub (fun t=>lim 8 t.fst) (fun t=>t.snd) fu) n
   (some (CRd_s1 ((i:Int) - 1) a [0,0,0,0,0,0,0,0] (lim 8 LN) (lim 8 (val a / 2 ^ i%LN))))=some (eW (val a%LN)):=by
 intro i
 induction i with
 | zero=>
  intro n _ hn
  obtain ⟨n,rfl⟩:=Nat.exists_eq_succ_of_ne_zero (by omega:n ≠ 0)
  rw [lpA_succ,CRd_r1,decide_eq_false (by omega),cond_false,kOut_some,CRd_c1e0,Nat.pow_zero,Nat.div_one]
  rfl
 | succ i ih=>
  intro n hi hn
  obtain ⟨n,rfl⟩:=Nat.exists_eq_succ_of_ne_zero (by omega:n ≠ 0)
  have h:=ih n (by omega) (by omega)
  have hr:val a / 2 ^ (i+1)%LN < LN:=Nat.mod_lt _ (by decide)
  have hb:val a / 2 ^ i%2 < 2:=Nat.mod_lt _ (by omega)
  have hnew:val a / 2 ^ i%LN=(2*(val a / 2 ^ (i+1)%LN)+val a / 2 ^ i%2)%LN:=by
   rw [<-red_step,<-bit_step]
  rw [hnew] at h
  have bt:=run_Bit ha (i:Int)
  have hbn:bitN (val a) (i:Int)=val a / 2 ^ i%2:=by
   rw [bitN,decide_eq_false (by omega),cond_false,Int.toNat_natCast]
  rw [hbn] at bt
  generalize val a / 2 ^ (i+1)%LN=r at *
  generalize val a / 2 ^ i%2=b at *
  clear hnew hbn ih
  have ad:=run_Add (ok8_lim r) (ok8_lim r)
  rw [sumW,valM (Nat.lt_trans hr LN_lt)] at ad
  have h2:2*r+b < M512:=Nat.lt_of_lt_of_le (show 2*r+b < 2*LN by omega) (by decide +kernel)
  have cm:=run_Cmp (ok8_lim (2*r+b)) (ok8_lim LN)
  rw [valM h2,valM LN_lt] at cm
  have sb:=run_Sub (ok8_lim (2*r+b)) (ok8_lim LN)
  rw [difW,valM h2,valM LN_lt] at sb
  have ol:=or_low (n:=r+r) (b:=b) (by omega) hb
  rw [show r+r+b=2*r+b by omega] at ol
  have w1:i64.wrap ((((i+1:Nat):Int) - 1) - 1)=(i:Int) - 1:=by
   rw [show (((i+1:Nat):Int) - 1) - 1=(i:Int) - 1 by omega]
   exact wi64 (by omega) (by omega)
  have w2:(((i+1:Nat):Int) - 1)=(i:Int):=by omega
  simp only [W8] at *
  rw [lpA_succ,CRd_r1,decide_eq_true (by omega),cond_true,ad,Option.bind_some,w2,bt,Option.bind_some]
  dsimp only
  rw [ol,cm,Option.bind_some,cmpN_ge]
  rw [w2] at w1
  by_cases g:LN <= 2*r+b
  ·rw [decide_eq_true g,cond_true,sb,Option.bind_some,w1]
   have e:lim 8 (2*r+b+M512 - LN)=lim 8 ((2*r+b)%LN):=by
    rw [Nat.mod_eq_sub_mod g,Nat.mod_eq_of_lt (by omega),show 2*r+b+M512 - LN=(2*r+b - LN)+M512 by omega,lim8_add]
   dsimp only
   rw [e]
   exact h
  ·rw [decide_eq_false g,cond_false,w1]
   rw [Nat.mod_eq_of_lt (by omega)] at h
   exact h
theorem ok_RedL:CallOk prog nF50 sRedL:=by
 refine afunc_okE (g:=gI_CRd) (fu:=fun _=>600) mixed gok_CRd hF50 (by kernel_rfl) ?_
 intro args t ht
 obtain ⟨a,rfl,ha,rfl⟩:=run1_ok (F:=fun a=>val a%LN) ht
 refine (CRd_ev ..).trans ?_
 have o:rOrd []=some ():=rfl
 have l:=run_Len ha
 have hb:bl (val a) <= 512:=by
  have h:=val_lt a (ok8_ok ha)
  rw [ok8_len ha] at h
  exact bl_lim (val a) 8 h
 simp only [W8] at l
 rw [o,Option.bind_some,l,Option.bind_some]
 have h:=rdL_loop ha 600 (bl (val a)) 600 hb (by omega)
 have h0:val a / 2 ^ bl (val a)%LN=0:=by
  rw [Nat.div_eq_of_lt (bl_spec (val a)).1]; rfl
 rw [h0] at h
 have w:i64.wrap ((bl (val a):Int) - 1)=(bl (val a):Int) - 1:=wi64 (by omega) (by omega)
 rw [w]
 exact h
theorem run_RedL {a:List Int} (h:ok8 a=true):rRedL [W8 a]=some (val a%LN):=by
 simp only [rRedL,sRedL]
 exact run1_some (fun a=>val a%LN) h
set_option maxRecDepth 4000
theorem lim_small {n:Nat} (h:n < 18446744073709551616):lim 8 n=[(n:Int),0,0,0,0,0,0,0]:=by
 show ((n%18446744073709551616:Nat):Int) :: lim 7 (n / 18446744073709551616)=_
 rw [Nat.mod_eq_of_lt h,Nat.div_eq_of_lt h]
 rfl
abbrev gI_COf:Cg:=g_COf (Int) rOf (fun t=>[t,0,0,0,0,0,0,0])
theorem gok_COf:CfOk prog gI_COf.c:=⟨gam_cons ok_Of <| gam_nil,fun _ _ h=>by cases h⟩
theorem ok_ScOf:CallOk prog nF31 sScOf:=by
 refine afunc_okE (g:=gI_COf) (fu:=fun _=>0) mixed gok_COf hF31 (by kernel_rfl) ?_
 intro args t ht
 unfold sScOf at ht
 simp only at ht
 split at ht
 ·rename_i n
  obtain ⟨hc,rfl⟩:=ctrueS ht
  simp only [in64,decide_eq_true_eq] at hc
  obtain ⟨k,rfl⟩:=Int.eq_ofNat_of_zero_le hc.1
  refine (COf_ev ..).trans ?_
  rw [run_Of k (by omega),Option.bind_some,Int.toNat_natCast]
  show _=some (eW k)
  rw [eW,lim_small (by omega)]
 ·cases ht
theorem run_ScOf {n:Nat} (h:n < 18446744073709551616):rScOf [.int .u64 (n:Int)]=some n:=by
 simp only [rScOf,sScOf]
 rw [show in64 (n:Int)=true by simp [in64]; omega,cond_true,Int.toNat_natCast]
theorem run2c_ok {T:Type} {F:List Int->List Int->T} {C:List Int->List Int->Bool} {args:List AV} {t:T} (h:run2c F C args=some t):∃ a b,args=[W8 a,W8 b] /\ ok8 a=true /\ ok8 b=true /\ C a b=true /\ t=F a b:=by
 unfold run2c at h
 split at h
 ·rename_i a b
  obtain ⟨h1,h2⟩:=ctrueS h
  simp only [Bool.and_eq_true] at h1
  exact ⟨a,b,rfl,h1.1.1,h1.1.2,h1.2,h2.symm⟩
 ·cases h
theorem run1c_ok {T:Type} {F:List Int->T} {C:List Int->Bool} {args:List AV} {t:T} (h:run1c F C args=some t):∃ a,args=[W8 a] /\ ok8 a=true /\ C a=true /\ t=F a:=by
 unfold run1c at h
 split at h
 ·rename_i a
  obtain ⟨h1,h2⟩:=ctrueS h
  simp only [Bool.and_eq_true] at h1
  exact ⟨a,rfl,h1.1,h1.2,h2.symm⟩
 ·cases h
theorem run_2c {T:Type} (F:List Int->List Int->T) (C:List Int->List Int->Bool) {a b:List Int} (ha:ok8 a=true) (hb:ok8 b=true) (hc:C a b=true):run2c F C [W8 a,W8 b]=some (F a b):=by
 show cond (ok8 a && ok8 b && C a b) (some (F a b)) none=_
 rw [ha,hb,hc]; rfl
theorem run_1c {T:Type} (F:List Int->T) (C:List Int->Bool) {a:List Int} (ha:ok8 a=true) (hc:C a=true):run1c F C [W8 a]=some (F a):=by
 show cond (ok8 a && C a) (some (F a)) none=_
 rw [ha,hc]; rfl
theorem lt256_ok {a:List Int} (h:lt256 a=true):val a < M256:=Nat.blt_eq.mp h
theorem lt256_of {n:Nat} (h:n < LN):lt256 (lim 8 n)=true:=by
 rw [lt256,valM (Nat.lt_trans h LN_lt)]
 exact Nat.blt_eq.mpr (Nat.lt_trans h (by decide))
abbrev gI_CMu:Cg:=g_CMu (Nat × Bool) rMul (fun t=>lim 8 t.fst) (fun t=>t.snd) (Nat) rRedL (fun t=>lim 8 t)
theorem gok_CMu:CfOk prog gI_CMu.c:=⟨gam_cons ok_Mul <| gam_cons ok_RedL <| gam_nil,fun _ _ h=>by cases h⟩
theorem ok_ScMul:CallOk prog nF14 sScMul:=by
 refine afunc_okE (g:=gI_CMu) (fu:=fun _=>0) mixed gok_CMu hF14 (by kernel_rfl) ?_
 intro args t ht
 obtain ⟨a,b,rfl,ha,hb,hc,rfl⟩:=run2c_ok (F:=fun a b=>val a*val b%LN) ht
 rw [Bool.and_eq_true] at hc
 have h1:=lt256_ok hc.1
 have h2:=lt256_ok hc.2
 have hlt:val a*val b < M512:=by
  refine Nat.lt_of_lt_of_le (Nat.mul_lt_mul'' h1 h2) ?_
  decide +kernel
 refine (CMu_ev ..).trans ?_
 have m:=run_Mul ha hb
 have r:=run_RedL (ok8_lim (val a*val b))
 rw [valM hlt] at r
 simp only [W8] at m r
 rw [m,Option.bind_some]
 simp only [mulW]
 rw [r]
 rfl
theorem run_ScMul {a b:Nat} (ha:a < LN) (hb:b < LN):rScMul [eW a,eW b]=some (a*b%LN):=by
 have h:=run_2c (fun a b=>val a*val b%LN) (fun a b=>lt256 a && lt256 b) (ok8_lim a) (ok8_lim b) (by rw [lt256_of ha,lt256_of hb]; rfl)
 rw [valM (Nat.lt_trans ha LN_lt),valM (Nat.lt_trans hb LN_lt)] at h
 simp only [rScMul,sScMul]
 exact h
abbrev gI_CAdS:Cg:=g_CAdS (Nat × Bool) rAdd (fun t=>lim 8 t.fst) (fun t=>t.snd) (Nat) rRedL (fun t=>lim 8 t)
theorem gok_CAdS:CfOk prog gI_CAdS.c:=⟨gam_cons ok_Add <| gam_cons ok_RedL <| gam_nil,fun _ _ h=>by cases h⟩
theorem ok_ScAdd:CallOk prog nF10 sScAdd:=by
 refine afunc_okE (g:=gI_CAdS) (fu:=fun _=>0) mixed gok_CAdS hF10 (by kernel_rfl) ?_
 intro args t ht
 obtain ⟨a,b,rfl,ha,hb,hc,rfl⟩:=run2c_ok (F:=fun a b=>(val a+val b)%LN) ht
 rw [Bool.and_eq_true] at hc
 have h1:=lt256_ok hc.1
 have h2:=lt256_ok hc.2
 have hlt:val a+val b < M512:=Nat.lt_trans (Nat.add_lt_add h1 h2) (by decide +kernel)
 refine (CAdS_ev ..).trans ?_
 have m:=run_Add ha hb
 have r:=run_RedL (ok8_lim (val a+val b))
 rw [valM hlt] at r
 simp only [W8] at m r
 rw [m,Option.bind_some]
 simp only [sumW]
 rw [r]
 rfl
theorem run_ScAdd {a b:Nat} (ha:a < LN) (hb:b < LN):rScAdd [eW a,eW b]=some ((a+b)%LN):=by
 have h:=run_2c (fun a b=>(val a+val b)%LN) (fun a b=>lt256 a && lt256 b) (ok8_lim a) (ok8_lim b) (by rw [lt256_of ha,lt256_of hb]; rfl)
 rw [valM (Nat.lt_trans ha LN_lt),valM (Nat.lt_trans hb LN_lt)] at h
 simp only [rScAdd,sScAdd]
 exact h
abbrev gI_CIn:Cg:=g_CIn (PUnit) rOrd (Int) rOf (fun t=>[t,0,0,0,0,0,0,0]) (Nat × Bool) rSub (fun t=>lim 8 t.fst) (fun t=>t.snd) (Nat) rScOf (fun t=>lim 8 t) (Nat) rScMul (fun t=>lim 8 t) (Nat) rBit (fun t=>↑t)
theorem gok_CIn:CfOk prog gI_CIn.c:=⟨gam_cons ok_Ord <| gam_cons ok_Of <| gam_cons ok_Sub <| gam_cons ok_ScOf <| gam_cons ok_ScMul <| gam_cons ok_Bit <| gam_nil,fun _ _ h=>by cases h⟩
theorem invL_lt {a:Nat}:∀ (i out:Nat),out < LN->invL a i out < LN:=by
 intro i
 induction i with
 | zero=>intro out h; exact h
 | succ i ih=>
  intro out h
  rw [invL]
  refine ih _ ?_
  cases Nat.beq ((LN - 2) / 2 ^ i%2) 1
  ·exact Nat.mod_lt _ (by decide)
  ·exact Nat.mod_lt _ (by decide)
theorem in_loop {a:List Int} (ha:ok8 a=true) (hl:val a < M256) (fu:Nat):∀ (i n out:Nat),i <= 253->i < n->out < LN ->
  lpA prog gI_CIn fu CIn_b1 (CIn_k1 PUnit rOrd Int rOf (fun t=>[t,0,0,0,0,0,0,0]) (Nat × Bool) rSub (fun t=>lim 8 t.fst) (fun t=>t.snd) Nat rScOf (fun t=>lim 8 t) Nat rScMul (fun t=>lim 8 t) Nat rBit (fun t=>↑t) fu) n
   (some (CIn_s1 ((i:Int) - 1) a [0,0,0,0,0,0,0,0] (lim 8 (LN - 2)) (lim 8 out)))=some (eW (invL (val a) i out)):=by
 intro i
 induction i with
 | zero=>
  intro n out _ hn ho
  obtain ⟨n,rfl⟩:=Nat.exists_eq_succ_of_ne_zero (by omega:n ≠ 0)
  rw [lpA_succ,CIn_r1,decide_eq_false (by omega),cond_false,kOut_some,CIn_c1e0,invL]
  rfl
 | succ i ih=>
  intro n out hi hn ho
  obtain ⟨n,rfl⟩:=Nat.exists_eq_succ_of_ne_zero (by omega:n ≠ 0)
  have m1:=run_ScMul ho ho
  have hs:out*out%LN < LN:=Nat.mod_lt _ (by decide)
  have m2:=run_2c (fun a b=>val a*val b%LN) (fun a b=>lt256 a && lt256 b) (ok8_lim (out*out%LN)) ha (by rw [lt256_of hs,lt256,Nat.blt_eq.mpr hl]; rfl)
  rw [valM (Nat.lt_trans hs LN_lt)] at m2
  have m2':rScMul [eW (out*out%LN),W8 a]=some (out*out%LN*val a%LN):=by
   simp only [rScMul,sScMul]; exact m2
  have bt:=run_Bit (ok8_lim (LN - 2)) (i:Int)
  have hbn:bitN (val (lim 8 (LN - 2))) (i:Int)=(LN - 2) / 2 ^ i%2:=by
   rw [valM (by decide +kernel),bitN,decide_eq_false (by omega),cond_false,Int.toNat_natCast]
  rw [hbn] at bt
  have h1:=ih n (out*out%LN) (by omega) (by omega) hs
  have h2:=ih n (out*out%LN*val a%LN) (by omega) (by omega) (Nat.mod_lt _ (by decide))
  have w2:(((i+1:Nat):Int) - 1)=(i:Int):=by omega
  have w1:i64.wrap ((i:Int) - 1)=(i:Int) - 1:=wi64 (by omega) (by omega)
  simp only [eW,W8] at m1 m2' bt
  rw [lpA_succ,CIn_r1,decide_eq_true (by omega),cond_true,m1,Option.bind_some,w2,bt,Option.bind_some,invL]
  generalize (LN - 2) / 2 ^ i%2=b at *
  have eb:decide ((b:Int)=1)=Nat.beq b 1:=by
   cases hb:Nat.beq b 1
   ·refine decide_eq_false fun h=>?_
    have:b=1:=by omega
    subst this; cases hb
   ·have:=Nat.eq_of_beq_eq_true hb
    subst this; rfl
  rw [eb]
  cases Nat.beq b 1
  ·rw [cond_false,cond_false,w1]; exact h1
  ·rw [cond_true,cond_true,m2',Option.bind_some,w1]; exact h2
theorem ok_ScInv:CallOk prog nF82 sScInv:=by
 refine afunc_okE (g:=gI_CIn) (fu:=fun _=>300) mixed gok_CIn hF82 (by kernel_rfl) ?_
 intro args t ht
 obtain ⟨a,rfl,ha,hc,rfl⟩:=run1c_ok (F:=fun a=>invL (val a) 253 1) ht
 have hl:=lt256_ok hc
 refine (CIn_ev ..).trans ?_
 have o2:rOf [AV.int u64 2]=some 2:=rfl
 have s1:rSub [AV.agg (TRow.ints u64 (lim 8 LN)) 8,AV.agg (TRow.ints u64 [2,0,0,0,0,0,0,0]) 8]=some (M512+(LN - 2),true) :=
  (run_Sub (ok8_lim _) (b:=[2,0,0,0,0,0,0,0]) (by decide)).trans (by decide +kernel)
 have e:lim 8 (M512+(LN - 2))=lim 8 (LN - 2):=by rw [Nat.add_comm,lim8_add]
 have o1:=run_ScOf (n:=1) (by decide)
 rw [show ((1:Nat):Int)=1 from rfl] at o1
 rw [show rOrd []=some () from rfl,Option.bind_some,o2,Option.bind_some,s1,Option.bind_some,o1,Option.bind_some]
 dsimp only
 rw [e]
 exact in_loop ha hl 300 253 300 1 (by omega) (by omega) (by decide)
theorem run_ScInv {a:Nat} (ha:a < LN):rScInv [eW a]=some (invL a 253 1):=by
 have h:=run_1c (fun a=>invL (val a) 253 1) lt256 (ok8_lim a) (lt256_of ha)
 rw [valM (Nat.lt_trans ha LN_lt)] at h
 simp only [rScInv,sScInv]
 exact h
abbrev gI_CZe:Cg:=g_CZe 
theorem gok_CZe:CfOk prog gI_CZe.c:=⟨gam_nil,fun _ _ h=>by cases h⟩
theorem ok_ScZero:CallOk prog nF9 sScZero:=by
 refine afunc_okE (g:=gI_CZe) (fu:=fun _=>0) mixed gok_CZe hF9 (by kernel_rfl) ?_
 intro args t ht
 obtain ⟨a,rfl,ha,rfl⟩:=run1_ok (F:=fun a=>Nat.beq (val a) 0) ht
 have hz:=lim8_zero_iff (val a) (val8_lt ha)
 rw [lim8_val ha] at hz
 obtain ⟨a0,a1,a2,a3,a4,a5,a6,a7,rfl⟩:=list8 ha
 refine (CZe_ev ..).trans ?_
 have:decide ([a0,a1,a2,a3,a4,a5,a6,a7]=[0,0,0,0,0,0,0,0])=Nat.beq (val [a0,a1,a2,a3,a4,a5,a6,a7]) 0:=by
  cases hb:Nat.beq (val [a0,a1,a2,a3,a4,a5,a6,a7]) 0
  ·refine decide_eq_false fun h=>?_
   rw [hz.1 h] at hb; cases hb
  ·exact decide_eq_true (hz.2 (Nat.eq_of_beq_eq_true hb))
 rw [this]; rfl
theorem run_ScZero {a:Nat} (ha:a < LN):rScZero [eW a]=some (Nat.beq a 0):=by
 have h:=run1_some (fun a=>Nat.beq (val a) 0) (ok8_lim a)
 rw [valM (Nat.lt_trans ha LN_lt)] at h
 simp only [rScZero,sScZero]
 exact h
abbrev gI_CBy:Cg:=g_CBy (List UInt8) rBytes (fun t=>t)
theorem gok_CBy:CfOk prog gI_CBy.c:=⟨gam_cons ok_Bytes <| gam_nil,fun _ _ h=>by cases h⟩
theorem take_strN (v:Nat):List.take 32 (List.drop 0 (List.map ofB (sl (strN 64 v) 0 32)))=lo 32 v:=by
 have e:lo 64 v=lo 32 v++lo 32 (v / 256 ^ 32):=lo_split 32 32 v
 have:sl (strN 64 v) 0 32=(lo 32 v).map b8:=by
  show List.take 32 (List.drop 0 ((lo 64 v).map b8))=_
  rw [List.drop_zero,e,List.map_append,List.take_left' (by rw [List.length_map,length_lo])]
 rw [this,List.drop_zero,List.map_map,List.take_of_length_le (by rw [List.length_map,length_lo]; omega)]
 have h:∀ (k n:Nat),(lo k n).map (ofB ∘ b8)=lo k n:=by
  intro k
  induction k with
  | zero=>intro n; rfl
  | succ k ih=>intro n; rw [lo,List.map_cons,ih]; exact congrArg (· :: _) (by
    show ofB (b8 ((n%256:Nat):Int))=_
    simp only [ofB,b8,Int.toNat_natCast,UInt8.toNat_ofNat']
    omega)
 exact h 32 v
theorem ok_ScBytes:CallOk prog nF148 sScBytes:=by
 refine afunc_okE (g:=gI_CBy) (fu:=fun _=>0) mixed gok_CBy hF148 (by kernel_rfl) ?_
 intro args t ht
 obtain ⟨a,rfl,ha,rfl⟩:=run1_ok (F:=fun a=>lo 32 (val a)) ht
 refine (CBy_ev ..).trans ?_
 have b:=run_Bytes ha
 have l:(strN 64 (val a)).length=64:=strN_len 64 _
 have l2:(sl (strN 64 (val a)) 0 32).length=32:=by
  show (List.take 32 (List.drop 0 (strN 64 (val a)))).length=32
  rw [List.drop_zero,List.length_take,l]; rfl
 have tk:=take_strN (val a)
 simp only [W8] at b
 rw [b,Option.bind_some,l,l2,tk]
 rfl
abbrev gI_CSm:Cg:=g_CSm (List Int) rScBytes (fun t=>t)
theorem gok_CSm:CfOk prog gI_CSm.c:=⟨gam_cons ok_ScBytes <| gam_nil,fun _ _ h=>by cases h⟩
theorem ok_Same6:CallOk prog nF119 sSame6:=by
 refine afunc_okE (g:=gI_CSm) (fu:=fun _=>0) mixed gok_CSm hF119 (by kernel_rfl) ?_
 intro args t ht
 obtain ⟨a,b,rfl,ha,hb,rfl⟩:=run2_ok (F:=fun a b=>decide (lo 32 (val a)=lo 32 (val b))) ht
 refine (CSm_ev ..).trans ?_
 have e1:=run1_some (fun a=>lo 32 (val a)) ha
 have e2:=run1_some (fun a=>lo 32 (val a)) hb
 simp only [W8] at e1 e2
 simp only [rScBytes,sScBytes]
 rw [e1,Option.bind_some,e2]
 rfl
theorem run_Same6 {a b:Nat} (ha:a < LN) (hb:b < LN):rSame6 [eW a,eW b]=some (decide (lo 32 a=lo 32 b)):=by
 have h:=run2_some (fun a b=>decide (lo 32 (val a)=lo 32 (val b))) (ok8_lim a) (ok8_lim b)
 rw [valM (Nat.lt_trans ha LN_lt),valM (Nat.lt_trans hb LN_lt)] at h
 simp only [rSame6,sSame6]
 exact h
abbrev gI_CAw6:Cg:=g_CAw6 (Nat) rScOf (fun t=>lim 8 t) (Nat) rScInv (fun t=>lim 8 t) (PUnit) rTrue (Nat) rScMul (fun t=>lim 8 t) (Bool) rSame6 (fun t=>t) (Bool) rScZero (fun t=>t)
theorem gok_CAw6:CfOk prog gI_CAw6.c:=⟨gam_cons ok_ScOf <| gam_cons ok_ScInv <| gam_cons ok_Awake01 <| gam_cons ok_ScMul <| gam_cons ok_Same6 <| gam_cons ok_ScZero <| gam_nil,fun _ _ h=>by cases h⟩
theorem aw6_inv:invL 2 253 1=3618502788666131106986593281521497120428558179689953803000975469142727125495:=by decide +kernel
theorem ok_awake06:CallOk prog nF76 sTrue:=by
 refine afunc_okE (g:=gI_CAw6) (fu:=fun _=>0) mixed gok_CAw6 hF76 (by kernel_rfl) ?_
 intro args t ht
 unfold sTrue at ht
 simp only at ht
 split at ht
 ·have o1:=run_ScOf (n:=1) (by decide)
  have o2:=run_ScOf (n:=2) (by decide)
  rw [show ((1:Nat):Int)=1 from rfl] at o1
  rw [show ((2:Nat):Int)=2 from rfl] at o2
  have iv:=run_ScInv (a:=2) (by decide)
  rw [aw6_inv] at iv
  have m:=run_ScMul (a:=3618502788666131106986593281521497120428558179689953803000975469142727125495) (b:=2) (by decide) (by decide)
  rw [show 3618502788666131106986593281521497120428558179689953803000975469142727125495*2%LN=1 by decide] at m
  have s:=run_Same6 (a:=1) (b:=1) (by decide) (by decide)
  rw [decide_eq_true rfl] at s
  have z:=run_ScZero (a:=3618502788666131106986593281521497120428558179689953803000975469142727125495) (by decide)
  rw [show Nat.beq 3618502788666131106986593281521497120428558179689953803000975469142727125495 0=false by decide] at z
  simp only [eW] at iv m s z
  refine (CAw6_ev ..).trans ?_
  rw [o2,Option.bind_some,iv,Option.bind_some,show rTrue []=some () from rfl,Option.bind_some,Option.bind_some,m,Option.bind_some,o1,Option.bind_some,s,Option.bind_some,cond_true,z,Option.bind_some]
  rfl
 ·cases ht
abbrev gI_CAW6:Cg:=g_CAW6 (PUnit) rTrue
theorem gok_CAW6:CfOk prog gI_CAW6.c:=⟨gam_cons ok_awake06 <| gam_nil,fun _ _ h=>by cases h⟩
theorem ok_Awake06:CallOk prog nF28 sTrue:=by
 refine afunc_okE (g:=gI_CAW6) (fu:=fun _=>0) mixed gok_CAW6 hF28 (by kernel_rfl) ?_
 intro args t ht
 unfold sTrue at ht
 simp only at ht
 split at ht
 ·exact (CAW6_ev ..).trans rfl
 ·cases ht
abbrev gI_CAW5:Cg:=g_CAW5 (PUnit) rTrue
theorem gok_CAW5:CfOk prog gI_CAW5.c:=⟨gam_cons ok_awake05 <| gam_nil,fun _ _ h=>by cases h⟩
theorem ok_Awake05:CallOk prog nF166 sTrue:=by
 refine afunc_okE (g:=gI_CAW5) (fu:=fun _=>0) mixed gok_CAW5 hF166 (by kernel_rfl) ?_
 intro args t ht
 unfold sTrue at ht
 simp only at ht
 split at ht
 ·exact (CAW5_ev ..).trans rfl
 ·cases ht
end
end Go.Eng
