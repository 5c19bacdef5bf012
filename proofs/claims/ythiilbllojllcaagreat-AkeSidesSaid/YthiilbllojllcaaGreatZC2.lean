import Derived.Test.YthiilbllojllcaaGreatZF2
namespace Go.Eng
open Go.IntKind (u64 i64 u8)
noncomputable section
open Go Go.Proofs
set_option linter.all false
abbrev LN:Nat:=7237005577332262213973186563042994240857116359379907606001950938285454250989
def eW (n:Nat):AV:=.agg (.ints .u64 (cM 8 n)) 8
def bCx:Summ where
 T:=Unit
 run:=λ
  | []=>some ()
  | _=>none
 enc:=λ _=>eW LN
def aEz:FA Unit:=bCx.run
def aJl:Summ:={ T:=Nat,run:=KS λ a=>val a%LN,enc:=eW }
def aBg:FA Nat:=aJl.run
def aBh:Summ where
 T:=Nat
 run:=λ
  | [.c (.s (.pl (.int .u64 n)))]=>cond (iV n) (some n.toNat) none
  | _=>none
 enc:=eW
def OI:FA Nat:=aBh.run
def aBi {T:Type} (F:List Int->List Int->T) (C:List Int->List Int->Bool):FA T
 | [.c (.s (.pl (.agg (.ints .u64 a) 8))),.c (.s (.pl (.agg (.ints .u64 b) 8)))]=>cond (gK a && gK b && C a b) (some (F a b)) none
 | _=>none
def aBj {T:Type} (F:List Int->T) (C:List Int->Bool):FA T
 | [.c (.s (.pl (.agg (.ints .u64 a) 8)))]=>cond (gK a && C a) (some (F a)) none
 | _=>none
abbrev bCy:Nat:=115792089237316195423570985008687907853269984665640564039457584007913129639936
def zA (a:List Int):Bool:=Nat.blt (val a) bCy
def QS:Summ:={ T:=Nat,run:=aBi (λ a b=>val a*val b%LN) (λ a b=>zA a && zA b),enc:=eW }
def EO:FA Nat:=QS.run
def uN (a:Nat):Nat->Nat->Nat
 | 0,out=>out
 | i+1,out=>uN a i (cond (Nat.beq ((LN - 2) / 2 ^ i%2) 1) (out*out%LN*a%LN) (out*out%LN))
def X1:Summ:={ T:=Nat,run:=aBj (λ a=>uN (val a) 253 1) zA,enc:=eW }
def K7:FA Nat:=X1.run
def QT:Summ:={ T:=Bool,run:=KS λ a=>Nat.beq (val a) 0,enc:=λ t=>.bool t }
def AJ:FA Bool:=QT.run
def K8:Summ:={ T:=List Int,run:=KS λ a=>lo 32 (val a),enc:=pG }
def US:FA (List Int):=K8.run
def X2:Summ:={ T:=Bool,run:=Sp λ a b=>decide (lo 32 (val a)=lo 32 (val b)),enc:=λ t=>.bool t }
def X3:FA Bool:=X2.run
structure Pt where
 x:Fe
 y:Fe
 z:Fe
 t:Fe
def eP (p:Pt):AV:=.agg (.ints .u64 [(p.x.a:Int),p.x.b,p.x.c,p.x.d,p.x.e,p.y.a,p.y.b,p.y.c,p.y.d,p.y.e,p.z.a,p.z.b,p.z.c,p.z.d,p.z.e,p.t.a,p.t.b,p.t.c,p.t.d,p.t.e]) 20
def A3 {T:Type} (F:Pt->T):FA T
 | [.c (.s (.pl (.agg (.ints .u64 [a,b,c,d,e,f,g,h,i,j,k,l,m,n,o,p,q,r,s,t]) 20)))]=>
  cond (xA a b c d e && (xA f g h i j && (xA k l m n o && xA p q r s t))) (some (F ⟨yD a b c d e,yD f g h i j,yD k l m n o,yD p q r s t⟩)) none
 | _=>none
def K9 {T:Type} (F:Pt->Pt->T):FA T
 | [.c (.s (.pl (.agg (.ints .u64 [a,b,c,d,e,f,g,h,i,j,k,l,m,n,o,p,q,r,s,t]) 20))),.c (.s (.pl (.agg (.ints .u64 [a',b',c',d',e',f',g',h',i',j',k',l',m',n',o',p',q',r',s',t']) 20)))]=>
  cond (xA a b c d e && (xA f g h i j && (xA k l m n o && xA p q r s t)) && (xA a' b' c' d' e' && (xA f' g' h' i' j' && (xA k' l' m' n' o' && xA p' q' r' s' t'))))
   (some (F ⟨yD a b c d e,yD f g h i j,yD k l m n o,yD p q r s t⟩ ⟨yD a' b' c' d' e',yD f' g' h' i' j',yD k' l' m' n' o',yD p' q' r' s' t'⟩)) none
 | _=>none
def LA {T:Type} (F:Pt->Pt->Fe->T):FA T
 | [.c (.s (.pl (.agg (.ints .u64 [a,b,c,d,e,f,g,h,i,j,k,l,m,n,o,p,q,r,s,t]) 20))),.c (.s (.pl (.agg (.ints .u64 [a',b',c',d',e',f',g',h',i',j',k',l',m',n',o',p',q',r',s',t']) 20))),.c (.s (.pl (.agg (.ints .u64 [u0,u1,u2,u3,u4]) 5)))]=>
  cond (xA a b c d e && (xA f g h i j && (xA k l m n o && xA p q r s t)) && (xA a' b' c' d' e' && (xA f' g' h' i' j' && (xA k' l' m' n' o' && xA p' q' r' s' t'))) && xA u0 u1 u2 u3 u4)
   (some (F ⟨yD a b c d e,yD f g h i j,yD k l m n o,yD p q r s t⟩ ⟨yD a' b' c' d' e',yD f' g' h' i' j',yD k' l' m' n' o',yD p' q' r' s' t'⟩ (yD u0 u1 u2 u3 u4))) none
 | _=>none
def OJ {T:Type} (F:Fe->Fe->Fe->Fe->T):FA T
 | [.c (.s (.pl (.agg (.ints .u64 [a,b,c,d,e]) 5))),.c (.s (.pl (.agg (.ints .u64 [f,g,h,i,j]) 5))),.c (.s (.pl (.agg (.ints .u64 [k,l,m,n,o]) 5))),.c (.s (.pl (.agg (.ints .u64 [p,q,r,s,t]) 5)))]=>
  cond (xA a b c d e && (xA f g h i j && (xA k l m n o && xA p q r s t))) (some (F (yD a b c d e) (yD f g h i j) (yD k l m n o) (yD p q r s t))) none
 | _=>none
def dF:Fe:=fe 37095705934669439343138083508754565189542113879843219016388785533085940283555
def sCD:Summ where
 T:=Unit
 run:=λ
  | []=>some ()
  | _=>none
 enc:=λ _=>eF dF
def rCD:FA Unit:=sCD.run
def Bf (x y:Fe):Pt:=⟨x,y,fe 1,aN x y⟩
def X4:Summ:={ T:=Pt,run:=FJ Bf,enc:=eP }
def LB:FA Pt:=X4.run
def dM:Pt:=Bf (fe 0) (fe 1)
def EP {T:Type} (t:T):FA T
 | []=>some t
 | _=>none
def UT:Summ:={ T:=Pt,run:=EP dM,enc:=eP }
def Bg:FA Pt:=UT.run
def pB:Fe:=aN (fe 4) (vV (fe 5))
def OK:Fe:=(mC (cQ (aN pB pB) (fe 1)) (gS (aN dF (aN pB pB)) (fe 1))).1
def i4:Pt:=Bf OK pB
def UU:Summ:={ T:=Pt,run:=EP i4,enc:=eP }
def UV:FA Pt:=UU.run
def ePE (t:Pt × Int):AV:=.tup [.s (.pl (.agg (.ints .u64 [(t.1.x.a:Int),t.1.x.b,t.1.x.c,t.1.x.d,t.1.x.e,t.1.y.a,t.1.y.b,t.1.y.c,t.1.y.d,t.1.y.e,t.1.z.a,t.1.z.b,t.1.z.c,t.1.z.d,t.1.z.e,t.1.t.a,t.1.t.b,t.1.t.c,t.1.t.d,t.1.t.e]) 20)),.s (.pl (.int .i64 t.2))]
def LC (e f g h:Fe):Pt:=⟨aN e f,aN g h,aN f g,aN e h⟩
def sJn:Summ:={ T:=Pt,run:=OJ LC,enc:=eP }
def rJn:FA Pt:=sJn.run
def Bh (p q:Pt) (w:Fe):Pt :=
 LC (cQ (aN (gS p.y p.x) (gS q.y q.x)) (aN (cQ p.y p.x) (cQ q.y q.x))) (cQ (aN (gS p.z p.z) q.z) (aN (aN p.t w) q.t))
  (gS (aN (gS p.z p.z) q.z) (aN (aN p.t w) q.t)) (gS (aN (gS p.y p.x) (gS q.y q.x)) (aN (cQ p.y p.x) (cQ q.y q.x)))
def bCz:Summ:={ T:=Pt,run:=LA Bh,enc:=eP }
def aEA:FA Pt:=bCz.run
def Fd:Fe:=gS dF dF
def aBk:Summ:={ T:=Pt,run:=K9 λ p q=>Bh p q Fd,enc:=eP }
def UW:FA Pt:=aBk.run
def JD (p:Pt):Pt :=
 LC (cQ (gS (aN p.x p.x) (aN p.y p.y)) (aN (gS p.x p.y) (gS p.x p.y))) (gS (gS (aN p.z p.z) (aN p.z p.z)) (cQ (aN p.x p.x) (aN p.y p.y)))
  (cQ (aN p.x p.x) (aN p.y p.y)) (gS (aN p.x p.x) (aN p.y p.y))
def bCA:Summ:={ T:=Pt,run:=A3 JD,enc:=eP }
def aJn:FA Pt:=bCA.run
def UX (p:Pt):Pt:=⟨cQ f0 p.x,p.y,p.z,cQ f0 p.t⟩
def aJo:Summ:={ T:=Pt,run:=A3 UX,enc:=eP }
def aJp:FA Pt:=aJo.run
def sPY:Summ:={ T:=Fe,run:=A3 λ p=>aN p.y (vV p.z),enc:=eF }
def rPY:FA Fe:=sPY.run
def LD (p q:Pt):Bool:=jW (aN p.x q.z) (aN q.x p.z) && jW (aN p.y q.z) (aN q.y p.z)
def aJq:Summ:={ T:=Bool,run:=K9 LD,enc:=λ t=>.bool t }
def aJr:FA Bool:=aJq.run
def sRD:Summ:={ T:=Nat,run:=EP 37095705934669439343138083508754565189542113879843219016388785533085940283555,enc:=eN }
def rRD:FA Nat:=sRD.run
section
variable (T0:Type) (R0:FA T0) (aG:T0->List Int) (aO:T0->Int) (T1:Type) (R1:FA T1) (aM:T1->List Int) (T2:Type) (R2:FA T2) (bE:T2->List Int) (T3:Type) (R3:FA T3) (bS:T3->List Int) (eX:T3->Bool)
def aXg:Cg:=⟨⟨cV [(116,⟨R0,λ t=>AV.tup [.s (.pl (.agg (.ints .u64 (aG t)) 8)),.s (.pl (.int .i64 (aO t)))]⟩),(109,⟨R1,λ t=>AV.agg (.ints .u64 (aM t)) 8⟩),(126,⟨R2,λ t=>AV.agg (.ints .u64 (bE t)) 8⟩),(83,⟨R3,λ t=>AV.tup [.s (.pl (.agg (.ints .u64 (bS t)) 8)),.s (.pl (.bool (eX t)))]⟩)],[],cX⟩,[]⟩
theorem bCB (fu:Nat):aS prog Tryz.f81 (aXg T0 R0 aG aO T1 R1 aM T2 R2 bE T3 R3 bS eX) fu []=(R0 [.str [(50:UInt8),55,55,52,50,51,49,55,55,55,55,51,55,50,51,53,51,53,51,53,56,53,49,57,51,55,55,57,48,56,56,51,54,52,56,52,57,51]]).bind λ t=>(R1 [.int .u64 1]).bind λ bY=>(R2 [.agg (.ints .u64 (aM bY)) 8,.int .i64 252]).bind λ cJ=>(R3 [.agg (.ints .u64 (bE cJ)) 8,.agg (.ints .u64 (aG t)) 8]).bind λ t=>some (AV.agg (.ints .u64 (bS t)) 8):=by kernel_rfl
end
section
variable (T0:Type) (R0:FA T0) (T1:Type) (R1:FA T1) (aM:T1->Int) (T2:Type) (R2:FA T2) (bE:T2->List Int) (bU:T2->Bool) (T3:Type) (R3:FA T3) (bS:T3->Int) (T4:Type) (R4:FA T4) (dG:T4->Int) (T5:Type) (R5:FA T5) (fE:T5->List Int) (jG:T5->Bool)
def UY:Cg:=⟨⟨cV [(81,⟨R0,λ t=>AV.agg (.ints .u64 (cM 8 7237005577332262213973186563042994240857116359379907606001950938285454250989)) 8⟩),(82,⟨R1,λ t=>AV.int .i64 (aM t)⟩),(83,⟨R2,λ t=>AV.tup [.s (.pl (.agg (.ints .u64 (bE t)) 8)),.s (.pl (.bool (bU t)))]⟩),(84,⟨R3,λ t=>AV.int .u64 (bS t)⟩),(85,⟨R4,λ t=>AV.int .i64 (dG t)⟩),(86,⟨R5,λ t=>AV.tup [.s (.pl (.agg (.ints .u64 (fE t)) 8)),.s (.pl (.bool (jG t)))]⟩)],[],cX⟩,[(5,[1,2,3,4,5],[2,4])]⟩
def LE (v5:Int) (aQ bC dE gX:List Int):St:={ tm:=[(1,.s (.ptr 0 0 8)),(2,.s (.ptr 1 0 8)),(3,.s (.ptr 2 0 8)),(4,.s (.ptr 3 0 8)),(5,.int .i64 v5)],hp:=[(0,{ ty:=27,n:=8,row:=Row.t (.ints .u64 aQ) }),(1,{ ty:=29,n:=8,row:=Row.t (.ints .u64 bC) }),(2,{ ty:=27,n:=8,row:=Row.t (.ints .u64 dE) }),(3,{ ty:=27,n:=8,row:=Row.t (.ints .u64 gX) })],nx:=4,sz:=39 }
def X5:Code:=cN (bN [1,1,1,0,1,2] (bB Tryz.f45))
def X6 (fu:Nat):=mD prog (UY T0 R0 T1 R1 aM T2 R2 bE bU T3 R3 bS T4 R4 dG T5 R5 fE jG) fu [1,1,1,0,1,2] (bB Tryz.f45) (gI prog Tryz.f45)
abbrev bCC (fu:Nat) (v5:Int) (aQ bC dE gX:List Int):=eV prog (UY T0 R0 T1 R1 aM T2 R2 bE bU T3 R3 bS T4 R4 dG T5 R5 fE jG) fu X5 (X6 T0 R0 T1 R1 aM T2 R2 bE bU T3 R3 bS T4 R4 dG T5 R5 fE jG fu ) fu (some (LE v5 aQ bC dE gX))
theorem bCD (fu:Nat) (a:List Int):aS prog Tryz.f45 (UY T0 R0 T1 R1 aM T2 R2 bE bU T3 R3 bS T4 R4 dG T5 R5 fE jG) fu [W8 a]=(R0 []).bind λ t=>(R1 [.agg (.ints .u64 a) 8]).bind λ t=>bCC T0 R0 T1 R1 aM T2 R2 bE bU T3 R3 bS T4 R4 dG T5 R5 fE jG fu (i64.wrap (aM t - 1)) a [0,0,0,0,0,0,0,0] (cM 8 7237005577332262213973186563042994240857116359379907606001950938285454250989) [0,0,0,0,0,0,0,0]:=by kernel_rfl
def UZ (aQ bC:List Int):St:={ tm:=[(2,.s (.ptr 0 0 8)),(4,.s (.ptr 1 0 8))],hp:=[(0,{ ty:=29,n:=8,row:=Row.t (.ints .u64 aQ) }),(1,{ ty:=27,n:=8,row:=Row.t (.ints .u64 bC) })],nx:=2,sz:=39 }
theorem aJs {β:Type} (fu:Nat) (G:FG β) (H:FH β) (v5:Int) (aQ bC dE gX:List Int):fV prog (UY T0 R0 T1 R1 aM T2 R2 bE bU T3 R3 bS T4 R4 dG T5 R5 fE jG) fu X5 G H (LE v5 aQ bC dE gX)=bif decide (0 <= v5) then (R2 [.agg (.ints .u64 gX) 8,.agg (.ints .u64 gX) 8]).bind λ t=>(R3 [.agg (.ints .u64 aQ) 8,.int .i64 v5]).bind λ bY=>(R4 [.agg (.ints .u64 ((bE t).set 0 (Fv .u64 ((bE t).getD 0 0) (bS bY)))) 8,.agg (.ints .u64 dE) 8]).bind λ cJ=>bif decide (0 <= dG cJ) then (R5 [.agg (.ints .u64 ((bE t).set 0 (Fv .u64 ((bE t).getD 0 0) (bS bY)))) 8,.agg (.ints .u64 dE) 8]).bind λ t=>G (some (LE (i64.wrap (v5 - 1)) aQ bC dE (fE t))) else G (some (LE (i64.wrap (v5 - 1)) aQ bC dE ((bE t).set 0 (Fv .u64 ((bE t).getD 0 0) (bS bY))))) else H (Ex.exit 0) (some (UZ bC gX)):=by kernel_rfl
theorem aJt (fu:Nat) (aQ bC:List Int):X6 T0 R0 T1 R1 aM T2 R2 bE bU T3 R3 bS T4 R4 dG T5 R5 fE jG fu  (Ex.exit 0) (UZ aQ bC)=some (AV.agg (.ints .u64 bC) 8):=by kernel_rfl
end
section
variable (T0:Type) (R0:FA T0) (aG:T0->List Int)
def aXh:Cg:=⟨⟨cV [(109,⟨R0,λ t=>AV.agg (.ints .u64 (aG t)) 8⟩)],[],cX⟩,[]⟩
theorem bCE (fu:Nat) (n:Int):aS prog Tryz.f65 (aXh T0 R0 aG) fu [.int .u64 n]=(R0 [.int .u64 n]).bind λ t=>some (AV.agg (.ints .u64 (aG t)) 8):=by kernel_rfl
end
section
variable (T0:Type) (R0:FA T0) (aG:T0->List Int) (aO:T0->Bool) (T1:Type) (R1:FA T1) (aM:T1->List Int)
def aXi:Cg:=⟨⟨cV [(153,⟨R0,λ t=>AV.tup [.s (.pl (.agg (.ints .u64 (aG t)) 8)),.s (.pl (.bool (aO t)))]⟩),(45,⟨R1,λ t=>AV.agg (.ints .u64 (aM t)) 8⟩)],[],cX⟩,[]⟩
theorem bCF (fu:Nat) (a b:List Int):aS prog Tryz.f148 (aXi T0 R0 aG aO T1 R1 aM) fu [W8 a,W8 b]=(R0 [.agg (.ints .u64 a) 8,.agg (.ints .u64 b) 8]).bind λ t=>(R1 [.agg (.ints .u64 (aG t)) 8]).bind λ t=>some (AV.agg (.ints .u64 (aM t)) 8):=by kernel_rfl
end
section
variable (T0:Type) (R0:FA T0) (T1:Type) (R1:FA T1) (aM:T1->List Int) (T2:Type) (R2:FA T2) (bE:T2->List Int) (bU:T2->Bool) (T3:Type) (R3:FA T3) (bS:T3->List Int) (T4:Type) (R4:FA T4) (dG:T4->List Int) (T5:Type) (R5:FA T5) (fE:T5->Int)
def Ua:Cg:=⟨⟨cV [(81,⟨R0,λ t=>AV.agg (.ints .u64 (cM 8 7237005577332262213973186563042994240857116359379907606001950938285454250989)) 8⟩),(109,⟨R1,λ t=>AV.agg (.ints .u64 (aM t)) 8⟩),(86,⟨R2,λ t=>AV.tup [.s (.pl (.agg (.ints .u64 (bE t)) 8)),.s (.pl (.bool (bU t)))]⟩),(65,⟨R3,λ t=>AV.agg (.ints .u64 (bS t)) 8⟩),(148,⟨R4,λ t=>AV.agg (.ints .u64 (dG t)) 8⟩),(84,⟨R5,λ t=>AV.int .u64 (fE t)⟩)],[],cX⟩,[(5,[1,2,3,5,6],[2,5])]⟩
def LF (v6:Int) (aQ bC dE gX:List Int):St:={ tm:=[(1,.s (.ptr 0 0 8)),(2,.s (.ptr 1 0 8)),(3,.s (.ptr 2 0 8)),(5,.s (.ptr 3 0 8)),(6,.int .i64 v6)],hp:=[(0,{ ty:=29,n:=8,row:=Row.t (.ints .u64 aQ) }),(1,{ ty:=29,n:=8,row:=Row.t (.ints .u64 bC) }),(2,{ ty:=27,n:=8,row:=Row.t (.ints .u64 dE) }),(3,{ ty:=29,n:=8,row:=Row.t (.ints .u64 gX) })],nx:=4,sz:=29 }
def X7:Code:=cN (bN [1,1,1,0,1,2] (bB Tryz.f112))
def X8 (fu:Nat):=mD prog (Ua T0 R0 T1 R1 aM T2 R2 bE bU T3 R3 bS T4 R4 dG T5 R5 fE) fu [1,1,1,0,1,2] (bB Tryz.f112) (gI prog Tryz.f112)
abbrev bCG (fu:Nat) (v6:Int) (aQ bC dE gX:List Int):=eV prog (Ua T0 R0 T1 R1 aM T2 R2 bE bU T3 R3 bS T4 R4 dG T5 R5 fE) fu X7 (X8 T0 R0 T1 R1 aM T2 R2 bE bU T3 R3 bS T4 R4 dG T5 R5 fE fu ) fu (some (LF v6 aQ bC dE gX))
theorem bCH (fu:Nat) (a:List Int):aS prog Tryz.f112 (Ua T0 R0 T1 R1 aM T2 R2 bE bU T3 R3 bS T4 R4 dG T5 R5 fE) fu [W8 a]=(R0 []).bind λ t=>(R1 [.int .u64 2]).bind λ t=>(R2 [.agg (.ints .u64 (cM 8 7237005577332262213973186563042994240857116359379907606001950938285454250989)) 8,.agg (.ints .u64 (aM t)) 8]).bind λ t=>(R3 [.int .u64 1]).bind λ bY=>bCG T0 R0 T1 R1 aM T2 R2 bE bU T3 R3 bS T4 R4 dG T5 R5 fE fu 252 a [0,0,0,0,0,0,0,0] (bE t) (bS bY):=by kernel_rfl
def Ub (aQ bC:List Int):St:={ tm:=[(2,.s (.ptr 0 0 8)),(5,.s (.ptr 1 0 8))],hp:=[(0,{ ty:=29,n:=8,row:=Row.t (.ints .u64 aQ) }),(1,{ ty:=29,n:=8,row:=Row.t (.ints .u64 bC) })],nx:=2,sz:=29 }
theorem aJu {β:Type} (fu:Nat) (G:FG β) (H:FH β) (v6:Int) (aQ bC dE gX:List Int):fV prog (Ua T0 R0 T1 R1 aM T2 R2 bE bU T3 R3 bS T4 R4 dG T5 R5 fE) fu X7 G H (LF v6 aQ bC dE gX)=bif decide (0 <= v6) then (R4 [.agg (.ints .u64 gX) 8,.agg (.ints .u64 gX) 8]).bind λ t=>(R5 [.agg (.ints .u64 dE) 8,.int .i64 v6]).bind λ bY=>bif decide (fE bY=1) then (R4 [.agg (.ints .u64 (dG t)) 8,.agg (.ints .u64 aQ) 8]).bind λ t=>G (some (LF (i64.wrap (v6 - 1)) aQ bC dE (dG t))) else G (some (LF (i64.wrap (v6 - 1)) aQ bC dE (dG t))) else H (Ex.exit 0) (some (Ub bC gX)):=by kernel_rfl
theorem aJv (fu:Nat) (aQ bC:List Int):X8 T0 R0 T1 R1 aM T2 R2 bE bU T3 R3 bS T4 R4 dG T5 R5 fE fu  (Ex.exit 0) (Ub aQ bC)=some (AV.agg (.ints .u64 bC) 8):=by kernel_rfl
end
def aXj:Cg:=⟨⟨cV [],[],cX⟩,[]⟩
theorem bCI (fu:Nat) (a b c d e f g h:Int):aS prog Tryz.f89 aXj fu [W8 [a,b,c,d,e,f,g,h]]=some (AV.bool (decide ([a,b,c,d,e,f,g,h]=[0,0,0,0,0,0,0,0]))):=by kernel_rfl
section
variable (T0:Type) (R0:FA T0) (aG:T0->List UInt8)
def aXk:Cg:=⟨⟨cV [(194,⟨R0,λ t=>AV.str (aG t)⟩)],[],cX⟩,[]⟩
theorem bCJ (fu:Nat) (a:List Int):aS prog Tryz.f180 (aXk T0 R0 aG) fu [W8 a]=(R0 [.agg (.ints .u64 a) 8]).bind λ t=>bif decide ((0:Int) <= 0 /\ (0:Int) <= 32 /\ 32 <= (↑(aG t).length:Int)) then bif decide ((sl (aG t) 0 32).length <= 1099511627776) then bif Nat.ble 32 (sl (aG t) 0 32).length then some (AV.agg (.ints .u8 (List.take 32 (List.drop 0 (List.map sE (sl (aG t) 0 32))))) 32) else none else none else none:=by kernel_rfl
end
section
variable (T0:Type) (R0:FA T0) (aG:T0->List Int)
def aXl:Cg:=⟨⟨cV [(180,⟨R0,λ t=>AV.agg (.ints .u8 (aG t)) 32⟩)],[],cX⟩,[]⟩
theorem bCK (fu:Nat) (a b:List Int):aS prog Tryz.f147 (aXl T0 R0 aG) fu [W8 a,W8 b]=(R0 [.agg (.ints .u64 a) 8]).bind λ t=>(R0 [.agg (.ints .u64 b) 8]).bind λ bY=>some (AV.bool (decide (aG t=aG bY))):=by kernel_rfl
end
section
variable (T0:Type) (R0:FA T0) (aG:T0->List Int) (T1:Type) (R1:FA T1) (aM:T1->List Int) (T2:Type) (R2:FA T2) (T3:Type) (R3:FA T3) (bS:T3->List Int) (T4:Type) (R4:FA T4) (dG:T4->Bool) (T5:Type) (R5:FA T5) (fE:T5->Bool)
def aJw:Cg:=⟨⟨cV [(65,⟨R0,λ t=>AV.agg (.ints .u64 (aG t)) 8⟩),(112,⟨R1,λ t=>AV.agg (.ints .u64 (aM t)) 8⟩),(146,⟨R2,λ t=>AV.bool (true)⟩),(148,⟨R3,λ t=>AV.agg (.ints .u64 (bS t)) 8⟩),(147,⟨R4,λ t=>AV.bool (dG t)⟩),(89,⟨R5,λ t=>AV.bool (fE t)⟩)],[],cX⟩,[]⟩
theorem aQ7 (fu:Nat):aS prog Tryz.f106 (aJw T0 R0 aG T1 R1 aM T2 R2 T3 R3 bS T4 R4 dG T5 R5 fE) fu []=(R0 [.int .u64 2]).bind λ t=>(R1 [.agg (.ints .u64 (aG t)) 8]).bind λ t=>(R2 []).bind λ bY=>(R0 [.int .u64 2]).bind λ cJ=>(R3 [.agg (.ints .u64 (aM t)) 8,.agg (.ints .u64 (aG cJ)) 8]).bind λ fF=>(R0 [.int .u64 1]).bind λ gA=>(R4 [.agg (.ints .u64 (bS fF)) 8,.agg (.ints .u64 (aG gA)) 8]).bind λ gC=>bif dG gC then (R5 [.agg (.ints .u64 (aM t)) 8]).bind λ t=>some (AV.bool !fE t) else some (AV.bool false):=by kernel_rfl
end
section
variable (T0:Type) (R0:FA T0)
def aJx:Cg:=⟨⟨cV [(106,⟨R0,λ t=>AV.bool (true)⟩)],[],cX⟩,[]⟩
theorem aQ8 (fu:Nat):aS prog Tryz.f62 (aJx T0 R0) fu []=(R0 []).bind λ t=>some (AV.bool true):=by kernel_rfl
end
section
variable (T0:Type) (R0:FA T0)
def aJy:Cg:=⟨⟨cV [(209,⟨R0,λ t=>AV.bool (true)⟩)],[],cX⟩,[]⟩
theorem aQ9 (fu:Nat):aS prog Tryz.f195 (aJy T0 R0) fu []=(R0 []).bind λ t=>some (AV.bool true):=by kernel_rfl
end
set_option maxRecDepth 4000
theorem bHf {x b:Nat} (hx:x%2=0) (hb:b < 2):x ||| b=x+b:=by
 have h:=Au (i:=1) (b:=b) (by omega) (x / 2);have e:2 ^ 1*(x / 2)=x:=by omega
 rw [e] at h;exact h.symm
theorem bCL {n b:Nat} (hn:n%2=0) (hb:b < 2):(cM 8 n).set 0 (Fv .u64 ((cM 8 n).getD 0 0) (b:Int))=cM 8 (n+b):=by
 show Fv .u64 ((n%18446744073709551616:Nat):Int) (b:Int) :: cM 7 (n / 18446744073709551616)=(((n+b)%18446744073709551616:Nat):Int) :: cM 7 ((n+b) / 18446744073709551616);rw [Sn _ _ (bH _ (by decide)) (by omega),bHf (by omega) hb];have e1:(n+b)%18446744073709551616=n%18446744073709551616+b:=by omega
 have e2:(n+b) / 18446744073709551616=n / 18446744073709551616:=by omega
 rw [e1,e2]
theorem zB {n:Nat} (h:n < gD):val (cM 8 n)=n:=by rw [mN]; exact aY h
theorem wB:LN < gD:=by decide +kernel
abbrev bCM:Cg:=aXg (Nat × Int) FE (λ t=>cM 8 t.fst) (λ t=>t.snd) (Int) Wr (λ t=>[t,0,0,0,0,0,0,0]) (Nat) tH (λ t=>cM 8 t) (Nat × Bool) NP (λ t=>cM 8 t.fst) (λ t=>t.snd)
theorem aRa:CfOk prog bCM.c:=gk <| aA EL <| aA WW <| aA Mx <| aA Zi <| aH
theorem aJz:CallOk prog 81 bCx:=by
 refine fO aRa Tryz.func81 ?_;intro args t ht;unfold bCx at ht;simp only at ht;split at ht
 ·refine (bCB ..).trans ?_;have d1:=IU (s:=[50,55,55,52,50,51,49,55,55,55,55,51,55,50,51,53,51,53,51,53,56,53,49,57,51,55,55,57,48,56,56,51,54,52,56,52,57,51]) (by decide +kernel);rw [show z8 [50,55,55,52,50,51,49,55,55,55,55,51,55,50,51,53,51,53,51,53,56,53,49,57,51,55,55,57,48,56,56,51,54,52,56,52,57,51]=(27742317777372353535851937790883648493,0) by decide +kernel] at d1;have s1:tH [AV.agg (TRow.ints u64 [1,0,0,0,0,0,0,0]) 8,AV.int i64 252]=some 7237005577332262213973186563042994240829374041602535252466099000494570602496:=(yX (b:=[1,0,0,0,0,0,0,0]) (by decide) 252).trans (by decide +kernel);have a1:NP [AV.agg (TRow.ints u64 (cM 8 7237005577332262213973186563042994240829374041602535252466099000494570602496)) 8,AV.agg (TRow.ints u64 (cM 8 27742317777372353535851937790883648493)) 8]=some (LN,true) :=
   (Pf (cL _) (cL _)).trans (by decide +kernel)
  have o1:Wr [AV.int u64 1]=some 1:=rfl;refine (dW (λ o=>Option.bind o _) d1).trans ?_;rw [aC,o1,aC,s1,aC,a1];rfl
 ·cases ht
abbrev aJA:Cg:=UY (PUnit) aEz (Nat) aG3 (λ t=>↑t) (Nat × Bool) NP (λ t=>cM 8 t.fst) (λ t=>t.snd) (Nat) aG8 (λ t=>↑t) (Int) aG4 (λ t=>t) (Nat × Bool) NO (λ t=>cM 8 t.fst) (λ t=>t.snd)
theorem aRb:CfOk prog aJA.c:=gk <| aA aJz <| aA W6 <| aA Zi <| aA Sv <| aA aNw <| aA Ss <| aH
theorem aJB (n i:Nat):n / 2 ^ i=2*(n / 2 ^ (i+1))+n / 2 ^ i%2:=by
 rw [bM,<-jE];omega
theorem aJC {q b:Nat}:(2*q+b)%LN=(2*(q%LN)+b)%LN:=by
 rw [G7,lI,G7 (2*(q%LN)),lI 2 (q%LN),mY]
theorem aJD {a:List Int} (ha:gK a=true) (fu:Nat):∀ (i n:Nat),i <= 512->i < n ->
  eV prog aJA fu X5 (X6 PUnit aEz Nat aG3 (λ t=>↑t) (Nat × Bool) NP (λ t=>cM 8 t.fst) (λ t=>t.snd) Nat aG8 (λ t=>↑t) Int aG4 (λ t=>t) (Nat × Bool) NO (λ t=>cM 8 t.fst) (λ t=>t.snd) fu) n
   (some (LE ((i:Int) - 1) a [0,0,0,0,0,0,0,0] (cM 8 LN) (cM 8 (val a / 2 ^ i%LN))))=some (eW (val a%LN)):=by
 intro i
 induction i with
 | zero=>
  intro n _ hn;obtain ⟨n,rfl⟩:=aP (by omega:n ≠ 0);rw [aF,aJs,aJ (by omega),aE,aR,aJt,iY,yA];rfl
 | succ i ih=>
  intro n hi hn;obtain ⟨n,rfl⟩:=aP (by omega:n ≠ 0);have h:=ih n (by omega) (by omega);have hr:val a / 2 ^ (i+1)%LN < LN:=bH _ (by decide);have hb:val a / 2 ^ i%2 < 2:=bH _ (by omega);have hnew:val a / 2 ^ i%LN=(2*(val a / 2 ^ (i+1)%LN)+val a / 2 ^ i%2)%LN:=by
   rw [<-aJC,<-aJB]
  rw [hnew] at h;have bt:=Pj ha (i:Int);have hbn:nM (val a) (i:Int)=val a / 2 ^ i%2:=by
   rw [nM,aJ (by omega),aE,bD]
  rw [hbn] at bt;generalize val a / 2 ^ (i+1)%LN=r at *;generalize val a / 2 ^ i%2=b at *;clear hnew hbn ih;have ad:=Pf (cL r) (cL r);rw [Zg,zB (cZ hr wB)] at ad;have h2:2*r+b < gD:=dD (show 2*r+b < 2*LN by omega) (by decide +kernel);have cm:=Z9 (cL (2*r+b)) (cL LN);rw [zB h2,zB wB] at cm;have sb:=JL (cL (2*r+b)) (cL LN);rw [Zh,zB h2,zB wB] at sb;have ol:=bCL (n:=r+r) (b:=b) (by omega) hb;rw [show r+r+b=2*r+b by omega] at ol;have w1:i64.wrap ((((i+1:Nat):Int) - 1) - 1)=(i:Int) - 1:=by
   rw [show (((i+1:Nat):Int) - 1) - 1=(i:Int) - 1 by omega];exact bW (by omega) (by omega)
  have w2:(((i+1:Nat):Int) - 1)=(i:Int):=by omega
  simp only [W8] at *;rw [aF,aJs,aD (by omega),aB,ad,aC,w2,bt,aC];dsimp only;rw [ol,cm,aC,Co];rw [w2] at w1;by_cases g:LN <= 2*r+b
  ·rw [aD g,aB,sb,aC,w1];have e:cM 8 (2*r+b+gD - LN)=cM 8 ((2*r+b)%LN):=by
    rw [Nat.mod_eq_sub_mod g,aY (by omega),show 2*r+b+gD - LN=(2*r+b - LN)+gD by omega,KV]
   dsimp only;rw [e];exact h
  ·rw [aJ g,aE,w1];rw [aY (by omega)] at h;exact h
theorem aBl:CallOk prog 45 aJl:=by
 refine aZ (fu:=λ _=>600) aRb Tryz.func45 ?_;intro args t ht;obtain ⟨a,rfl,ha,rfl⟩:=w9 (F:=λ a=>val a%LN) ht;refine (bCD ..).trans ?_;have o:aEz []=some ():=rfl;have l:=Pg ha;have hb:bl (val a) <= 512:=by
  have h:=Ze a (wQ ha);rw [lA ha] at h;exact Ph (val a) 8 h
 simp only [W8] at l;rw [o,aC,l,aC];have h:=aJD ha 600 (bl (val a)) 600 hb (by omega);have h0:val a / 2 ^ bl (val a)%LN=0:=by
  rw [lG (z7 (val a)).1]; rfl
 rw [h0] at h;have w:i64.wrap ((bl (val a):Int) - 1)=(bl (val a):Int) - 1:=bW (by omega) (by omega);rw [w];exact h
theorem Uc {a:List Int} (h:gK a=true):aBg [W8 a]=some (val a%LN):=by
 simp only [aBg,aJl];exact lN (λ a=>val a%LN) h
set_option maxRecDepth 4000
theorem aEB {n:Nat} (h:n < 18446744073709551616):cM 8 n=[(n:Int),0,0,0,0,0,0,0]:=by
 show ((n%18446744073709551616:Nat):Int) :: cM 7 (n / 18446744073709551616)=_;rw [aY h,lG h];rfl
abbrev bCN:Cg:=aXh (Int) Wr (λ t=>[t,0,0,0,0,0,0,0])
theorem aRc:CfOk prog bCN.c:=gk <| aA WW <| aH
theorem QU:CallOk prog 65 aBh:=by
 refine fO aRc Tryz.func65 ?_;intro args t ht;unfold aBh at ht;simp only at ht;split at ht
 ·rename_i n;obtain ⟨hc,rfl⟩:=bO ht;simp only [iV,bJ] at hc;obtain ⟨k,rfl⟩:=bZ hc.1;refine (bCE ..).trans ?_;rw [Xe k (by omega),aC,bD];show _=some (eW k);rw [eW,aEB (by omega)]
 ·cases ht
theorem zC {n:Nat} (h:n < 18446744073709551616):OI [.int .u64 (n:Int)]=some n:=by
 simp only [OI,aBh];rw [show iV (n:Int)=true by simp [iV]; omega,aB,bD]
theorem aJE {T:Type} {F:List Int->List Int->T} {C:List Int->List Int->Bool} {args:List AV} {t:T} (h:aBi F C args=some t):∃ a b,args=[W8 a,W8 b] /\ gK a=true /\ gK b=true /\ C a b=true /\ t=F a b:=by
 unfold aBi at h;split at h
 ·rename_i a b;obtain ⟨h1,h2⟩:=bO h;simp only [aW] at h1;exact ⟨a,b,rfl,h1.1.1,h1.1.2,h1.2,h2.symm⟩
 ·cases h
theorem aJF {T:Type} {F:List Int->T} {C:List Int->Bool} {args:List AV} {t:T} (h:aBj F C args=some t):∃ a,args=[W8 a] /\ gK a=true /\ C a=true /\ t=F a:=by
 unfold aBj at h;split at h
 ·rename_i a;obtain ⟨h1,h2⟩:=bO h;simp only [aW] at h1;exact ⟨a,rfl,h1.1,h1.2,h2.symm⟩
 ·cases h
theorem aJG {T:Type} (F:List Int->List Int->T) (C:List Int->List Int->Bool) {a b:List Int} (ha:gK a=true) (hb:gK b=true) (hc:C a b=true):aBi F C [W8 a,W8 b]=some (F a b):=by
 show cond (gK a && gK b && C a b) (some (F a b)) none=_;rw [ha,hb,hc]; rfl
theorem aJH {T:Type} (F:List Int->T) (C:List Int->Bool) {a:List Int} (ha:gK a=true) (hc:C a=true):aBj F C [W8 a]=some (F a):=by
 show cond (gK a && C a) (some (F a)) none=_;rw [ha,hc]; rfl
theorem LG {a:List Int} (h:zA a=true):val a < bCy:=cY.mp h
theorem Bi {n:Nat} (h:n < LN):zA (cM 8 n)=true:=by
 rw [zA,zB (cZ h wB)];exact cY.mpr (cZ h (by decide))
abbrev bCO:Cg:=aXi (Nat × Bool) W7 (λ t=>cM 8 t.fst) (λ t=>t.snd) (Nat) aBg (λ t=>cM 8 t)
theorem aRd:CfOk prog bCO.c:=gk <| aA aNG <| aA aBl <| aH
theorem Ud:CallOk prog 148 QS:=by
 refine fO aRd Tryz.func148 ?_;intro args t ht;obtain ⟨a,b,rfl,ha,hb,hc,rfl⟩:=aJE (F:=λ a b=>val a*val b%LN) ht;rw [aW] at hc;have h1:=LG hc.1;have h2:=LG hc.2;have hlt:val a*val b < gD:=by
  refine dD (Nat.mul_lt_mul'' h1 h2) ?_;decide +kernel
 refine (bCF ..).trans ?_;have m:=aAa ha hb;have r:=Uc (cL (val a*val b));rw [zB hlt] at r;simp only [W8] at m r;rw [m,aC];simp only [aNF];rw [r];rfl
theorem OL {a b:Nat} (ha:a < LN) (hb:b < LN):EO [eW a,eW b]=some (a*b%LN):=by
 have h:=aJG (λ a b=>val a*val b%LN) (λ a b=>zA a && zA b) (cL a) (cL b) (by rw [Bi ha,Bi hb]; rfl);rw [zB (cZ ha wB),zB (cZ hb wB)] at h;simp only [EO,QS];exact h
abbrev aJI:Cg:=Ua (PUnit) aEz (Int) Wr (λ t=>[t,0,0,0,0,0,0,0]) (Nat × Bool) NO (λ t=>cM 8 t.fst) (λ t=>t.snd) (Nat) OI (λ t=>cM 8 t) (Nat) EO (λ t=>cM 8 t) (Nat) aG8 (λ t=>↑t)
theorem aRe:CfOk prog aJI.c:=gk <| aA aJz <| aA WW <| aA Ss <| aA QU <| aA Ud <| aA Sv <| aH
theorem aRf {a:Nat}:∀ (i out:Nat),out < LN->uN a i out < LN:=by
 intro i
 induction i with
 | zero=>intro out h; exact h
 | succ i ih=>
  intro out h;rw [uN];refine ih _ ?_;cases Nat.beq ((LN - 2) / 2 ^ i%2) 1
  ·exact bH _ (by decide)
  ·exact bH _ (by decide)
theorem aRg {a:List Int} (ha:gK a=true) (hl:val a < bCy) (fu:Nat):∀ (i n out:Nat),i <= 253->i < n->out < LN ->
  eV prog aJI fu X7 (X8 PUnit aEz Int Wr (λ t=>[t,0,0,0,0,0,0,0]) (Nat × Bool) NO (λ t=>cM 8 t.fst) (λ t=>t.snd) Nat OI (λ t=>cM 8 t) Nat EO (λ t=>cM 8 t) Nat aG8 (λ t=>↑t) fu) n
   (some (LF ((i:Int) - 1) a [0,0,0,0,0,0,0,0] (cM 8 (LN - 2)) (cM 8 out)))=some (eW (uN (val a) i out)):=by
 intro i
 induction i with
 | zero=>
  intro n out _ hn ho;obtain ⟨n,rfl⟩:=aP (by omega:n ≠ 0);rw [aF,aJu,aJ (by omega),aE,aR,aJv,uN];rfl
 | succ i ih=>
  intro n out hi hn ho;obtain ⟨n,rfl⟩:=aP (by omega:n ≠ 0);have m1:=OL ho ho;have hs:out*out%LN < LN:=bH _ (by decide);have m2:=aJG (λ a b=>val a*val b%LN) (λ a b=>zA a && zA b) (cL (out*out%LN)) ha (by rw [Bi hs,zA,cY.mpr hl]; rfl);rw [zB (cZ hs wB)] at m2;have m2':EO [eW (out*out%LN),W8 a]=some (out*out%LN*val a%LN):=by
   simp only [EO,QS]; exact m2
  have bt:=Pj (cL (LN - 2)) (i:Int);have hbn:nM (val (cM 8 (LN - 2))) (i:Int)=(LN - 2) / 2 ^ i%2:=by
   rw [zB (by decide +kernel),nM,aJ (by omega),aE,bD]
  rw [hbn] at bt;have h1:=ih n (out*out%LN) (by omega) (by omega) hs;have h2:=ih n (out*out%LN*val a%LN) (by omega) (by omega) (bH _ (by decide));have w2:(((i+1:Nat):Int) - 1)=(i:Int):=by omega
  have w1:i64.wrap ((i:Int) - 1)=(i:Int) - 1:=bW (by omega) (by omega);simp only [eW,W8] at m1 m2' bt;rw [aF,aJu,aD (by omega),aB,m1,aC,w2,bt,aC,uN];generalize (LN - 2) / 2 ^ i%2=b at *;have eb:decide ((b:Int)=1)=Nat.beq b 1:=by
   cases hb:Nat.beq b 1
   ·refine aJ λ h=>?_;have:b=1:=by omega
    subst this; cases hb
   ·have:=aT hb;subst this; rfl
  rw [eb];cases Nat.beq b 1
  ·rw [aE,aE,w1]; exact h1
  ·rw [aB,aB,m2',aC,w1]; exact h2
theorem Ue:CallOk prog 112 X1:=by
 refine aZ (fu:=λ _=>300) aRe Tryz.func112 ?_;intro args t ht;obtain ⟨a,rfl,ha,hc,rfl⟩:=aJF (F:=λ a=>uN (val a) 253 1) ht;have hl:=LG hc;refine (bCH ..).trans ?_;have o2:Wr [AV.int u64 2]=some 2:=rfl;have s1:NO [AV.agg (TRow.ints u64 (cM 8 LN)) 8,AV.agg (TRow.ints u64 [2,0,0,0,0,0,0,0]) 8]=some (gD+(LN - 2),true) :=
  (JL (cL _) (b:=[2,0,0,0,0,0,0,0]) (by decide)).trans (by decide +kernel)
 have e:cM 8 (gD+(LN - 2))=cM 8 (LN - 2):=by rw [KI,KV]
 have o1:=zC (n:=1) (by decide);rw [show ((1:Nat):Int)=1 from rfl] at o1;rw [show aEz []=some () from rfl,aC,o2,aC,s1,aC,o1,aC];dsimp only;rw [e];exact aRg ha hl 300 253 300 1 (by omega) (by omega) (by decide)
theorem aEC {a:Nat} (ha:a < LN):K7 [eW a]=some (uN a 253 1):=by
 have h:=aJH (λ a=>uN (val a) 253 1) zA (cL a) (Bi ha);rw [zB (cZ ha wB)] at h;simp only [K7,X1];exact h
abbrev bCP:Cg:=aXj 
theorem aRh:CfOk prog bCP.c:=gk <| aH
theorem Hd:CallOk prog 89 QT:=by
 refine fO aRh Tryz.func89 ?_;intro args t ht;obtain ⟨a,rfl,ha,rfl⟩:=w9 (F:=λ a=>Nat.beq (val a) 0) ht;have hz:=sA (val a) (Aj ha);rw [oA ha] at hz;obtain ⟨a0,a1,a2,a3,a4,a5,a6,a7,rfl⟩:=zT ha;refine (bCI ..).trans ?_;have:decide ([a0,a1,a2,a3,a4,a5,a6,a7]=[0,0,0,0,0,0,0,0])=Nat.beq (val [a0,a1,a2,a3,a4,a5,a6,a7]) 0:=by
  cases hb:Nat.beq (val [a0,a1,a2,a3,a4,a5,a6,a7]) 0
  ·refine aJ λ h=>?_;rw [hz.1 h] at hb; cases hb
  ·exact aD (hz.2 (aT hb))
 rw [this]; rfl
theorem X9 {a:Nat} (ha:a < LN):AJ [eW a]=some (Nat.beq a 0):=by
 have h:=lN (λ a=>Nat.beq (val a) 0) (cL a);rw [zB (cZ ha wB)] at h;simp only [AJ,QT];exact h
abbrev bCQ:Cg:=aXk (List UInt8) aIy (λ t=>t)
theorem aRi:CfOk prog bCQ.c:=gk <| aA aOd <| aH
theorem aED (v:Nat):List.take 32 (List.drop 0 (List.map sE (sl (JC 64 v) 0 32)))=lo 32 v:=by
 have e:lo 64 v=lo 32 v++lo 32 (v / 256 ^ 32):=U8 32 32 v;have:sl (JC 64 v) 0 32=(lo 32 v).map b8:=by
  show List.take 32 (List.drop 0 ((lo 64 v).map b8))=_;rw [gL,e,rP,DN (by rw [eZ,fS])]
 rw [this,gL,NF,d9 (by rw [eZ,fS]; omega)];have h:∀ (k n:Nat),(lo k n).map (sE ∘ b8)=lo k n:=by
  intro k
  induction k with
  | zero=>intro n; rfl
  | succ k ih=>intro n; rw [lo,mR,ih]; exact dW (· :: _) (by
    show sE (b8 ((n%256:Nat):Int))=_;simp only [sE,b8,bD,UInt8.toNat_ofNat'];omega)
 exact h 32 v
theorem YA:CallOk prog 180 K8:=by
 refine fO aRi Tryz.func180 ?_;intro args t ht;obtain ⟨a,rfl,ha,rfl⟩:=w9 (F:=λ a=>lo 32 (val a)) ht;refine (bCJ ..).trans ?_;have b:=aGk ha;have l:(JC 64 (val a)).length=64:=aJk 64 _;have l2:(sl (JC 64 (val a)) 0 32).length=32:=by
  show (List.take 32 (List.drop 0 (JC 64 (val a)))).length=32;rw [gL,dH,l]; rfl
 have tk:=aED (val a);simp only [W8] at b;rw [b,aC,l,l2,tk];rfl
abbrev bCR:Cg:=aXl (List Int) US (λ t=>t)
theorem aRj:CfOk prog bCR.c:=gk <| aA YA <| aH
theorem aJJ:CallOk prog 147 X2:=by
 refine fO aRj Tryz.func147 ?_;intro args t ht;obtain ⟨a,b,rfl,ha,hb,rfl⟩:=DF (F:=λ a b=>decide (lo 32 (val a)=lo 32 (val b))) ht;refine (bCK ..).trans ?_;have e1:=lN (λ a=>lo 32 (val a)) ha;have e2:=lN (λ a=>lo 32 (val a)) hb;simp only [W8] at e1 e2;simp only [US,K8];rw [e1,aC,e2];rfl
theorem aEE {a b:Nat} (ha:a < LN) (hb:b < LN):X3 [eW a,eW b]=some (decide (lo 32 a=lo 32 b)):=by
 have h:=vF (λ a b=>decide (lo 32 (val a)=lo 32 (val b))) (cL a) (cL b);rw [zB (cZ ha wB),zB (cZ hb wB)] at h;simp only [X3,X2];exact h
abbrev aRk:Cg:=aJw (Nat) OI (λ t=>cM 8 t) (Nat) K7 (λ t=>cM 8 t) (PUnit) gM (Nat) EO (λ t=>cM 8 t) (Bool) X3 (λ t=>t) (Bool) AJ (λ t=>t)
theorem aJK:CfOk prog aRk.c:=gk <| aA QU <| aA Ue <| aA Lg <| aA Ud <| aA aJJ <| aA Hd <| aH
theorem aRl:uN 2 253 1=3618502788666131106986593281521497120428558179689953803000975469142727125495:=by decide +kernel
theorem YB:CallOk prog 106 gE:=by
 refine fO aJK Tryz.func106 ?_;intro args t ht;unfold gE at ht;simp only at ht;split at ht
 ·have o1:=zC (n:=1) (by decide);have o2:=zC (n:=2) (by decide);rw [show ((1:Nat):Int)=1 from rfl] at o1;rw [show ((2:Nat):Int)=2 from rfl] at o2;have iv:=aEC (a:=2) (by decide);rw [aRl] at iv;have m:=OL (a:=3618502788666131106986593281521497120428558179689953803000975469142727125495) (b:=2) (by decide) (by decide);rw [show 3618502788666131106986593281521497120428558179689953803000975469142727125495*2%LN=1 by decide] at m;have s:=aEE (a:=1) (b:=1) (by decide) (by decide);rw [aD rfl] at s;have z:=X9 (a:=3618502788666131106986593281521497120428558179689953803000975469142727125495) (by decide);rw [show Nat.beq 3618502788666131106986593281521497120428558179689953803000975469142727125495 0=false by decide] at z;simp only [eW] at iv m s z;refine (aQ7 ..).trans ?_;rw [o2,aC,iv,aC,show gM []=some () from rfl,aC,aC,m,aC,o1,aC,s,aC,aB,z,aC];rfl
 ·cases ht
abbrev aRm:Cg:=aJx (PUnit) gM
theorem aJL:CfOk prog aRm.c:=gk <| aA YB <| aH
theorem LH:CallOk prog 62 gE:=by
 refine fO aJL Tryz.func62 ?_;intro args t ht;unfold gE at ht;simp only at ht;split at ht
 ·exact (aQ8 ..).trans rfl
 ·cases ht
abbrev aRn:Cg:=aJy (PUnit) gM
theorem aJM:CfOk prog aRn.c:=gk <| aA Ye <| aH
theorem YC:CallOk prog 195 gE:=by
 refine fO aJM Tryz.func195 ?_;intro args t ht;unfold gE at ht;simp only at ht;split at ht
 ·exact (aQ9 ..).trans rfl
 ·cases ht
end
end Go.Eng
