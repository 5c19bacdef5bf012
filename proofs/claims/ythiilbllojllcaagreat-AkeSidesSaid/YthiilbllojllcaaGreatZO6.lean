import Derived.Test.YthiilbllojllcaaGreatZO3
namespace Go.Eng
open Go.IntKind (u64 i64 u8)
noncomputable section
open Go Go.Proofs
set_option linter.all false
def Yw (s:Nat):Nat:=(1+aK - s*s%aK)%aK
def Nc (s:Nat):Nat:=(1+s*s%aK)%aK
def rVR (s d:Nat):Nat:=((0+aK - d*(Yw s*Yw s%aK)%aK)%aK+aK - Nc s*Nc s%aK)%aK
def rIR (s d:Nat):Nat × Bool:=DZ 1 (rVR s d*(Nc s*Nc s%aK)%aK)
def rXR (s d:Nat):Nat:=q9 ((s+s)%aK*((rIR s d).1*Nc s%aK)%aK)
def VU (s d:Nat):Nat:=Yw s*((rIR s d).1*((rIR s d).1*Nc s%aK*rVR s d%aK)%aK)%aK
def Ow (s d:Nat):Bool:=!Nat.beq (s%2) 1 && ((rIR s d).2 && (!Nat.beq (rXR s d*VU s d%aK%2) 1 && !Nat.beq (VU s d) 0))
def AU (a:List Int) (d:Nat):RP × Bool:=cond (Nat.blt (vB a) aK && Ow (vB a) d) (⟨rXR (vB a) d,VU (vB a) d,1⟩,true) (tA,false)
def L8:Summ where
 T:=RP × Bool
 run:=aAu AU
 enc:=λ t=>.tup [.mix [.dat (.ints .i64 (nb t.1.x)) (nb t.1.x).length 1,.dat (.ints .i64 (nb t.1.y)) (nb t.1.y).length 1,.dat (.ints .i64 (nb t.1.z)) (nb t.1.z).length 1],.s (.pl (.bool t.2))]
def aLh:FA (RP × Bool):=L8.run
def aXG:Summ:={ T:=Str,run:=Ax λ a=>a.map b8,enc:=λ t=>.str t }
def aXH:FA Str:=aXG.run
def VV (p:RP) (k d:Nat):List Int:=lo 32 (nJ (Eg (CL p k d)).1 (Eg (CL p k d)).2)
def aXI:Summ:={ T:=List Int,run:=MX VV λ n=>Nat.blt n i9,enc:=pG }
def aXJ:FA (List Int):=aXI.run
abbrev TI:Nat:=37095705934669439343138083508754565189542113879843219016388785533085940283555
def JK (k:Nat) (b:List Int):List Int × Int :=
 cond (AU b TI).2 (cond (decide (b=nE) || Nat.beq k 0) (nE,9) (VV (AU b TI).1 k TI,0)) (nE,8)
def Rc (t:List Int × Int):Str × Int:=(cond (decide (t.2=0)) (t.1.map b8) [],t.2)
def Rd:Summ where
 T:=Str × Int
 run:=λ
  | [.c (.s (.dat (.ints .i64 k) i 1)),.c (.s (.pl (.agg (.ints .u8 b) 32)))]=>cond (NT k i && Nat.blt (vB k) i9 && dP b) (some (Rc (JK (vB k) b))) none
  | _=>none
 enc:=eSE
def aCj:FA (Str × Int):=Rd.run
def L9:List SV->Option (List Int × Nat × List Int)
 | .dat (.ints .i64 k) i 1 :: r=>match IV r with
  | some b=>some (k,i,b)
  | none=>none
 | _=>none
def prC (k:List Int) (i:Nat) (b:List Int):List SV:=.dat (.ints .i64 k) i 1 :: b.map λ n=>.pl (.int .u8 n)
def Yx (k:List Int) (i:Nat) (b:List Int):Bool:=NT k i && Nat.blt (vB k) i9 && dP b
def MA:FA (Str × Int)
 | [.c (.rdat l 3 33)]=>match L9 (l.take 33),L9 ((l.drop 33).take 33),L9 (l.drop 66) with
  | some (k1,i1,b1),some (k2,i2,b2),some (k3,i3,b3)=>cond (Yx k1 i1 b1 && (Yx k2 i2 b2 && Yx k3 i3 b3)) (some (pO [] [JK (vB k1) b1,JK (vB k2) b2,JK (vB k3) b3])) none
  | _,_,_=>none
 | _=>none
def aCl:Summ:={ T:=Str × Int,run:=MA,enc:=eSE }
def aCm:FA (Str × Int):=aCl.run
section
variable (T0:Type) (R0:FA T0) (aG:T0->List Int) (aO:T0->Nat) (T1:Type) (R1:FA T1) (aM:T1->List Int) (bK:T1->Nat) (T2:Type) (R2:FA T2) (bE:T2->Int) (T3:Type) (R3:FA T3) (bS:T3->Bool) (T4:Type) (R4:FA T4) (dG:T4->List Int) (jU:T4->Nat) (z6:T4->List Int) (BE:T4->Nat) (BF:T4->List Int) (f4f:T4->Nat) (T5:Type) (R5:FA T5) (fE:T5->List Int) (jG:T5->Nat) (T6:Type) (R6:FA T6) (mF:T6->List Int) (nP:T6->Nat) (T7:Type) (R7:FA T7) (wU:T7->List Int) (BI:T7->Nat) (T8:Type) (R8:FA T8) (tE:T8->List Int) (vE:T8->Nat) (BH:T8->Bool) (T9:Type) (R9:FA T9) (zX:T9->List Int) (DX:T9->Nat)
def VW:Cg:=⟨⟨cV [(19,⟨R0,λ t=>AV.s (dI (aG t) (aO t))⟩),(95,⟨R1,λ t=>AV.s (dI (aM t) (bK t))⟩),(48,⟨R2,λ t=>AV.int .i64 (bE t)⟩),(96,⟨R3,λ t=>AV.bool (bS t)⟩),(97,⟨R4,λ t=>AV.c (.mix [dI (dG t) (jU t),dI (z6 t) (BE t),dI (BF t) (f4f t)])⟩),(91,⟨R5,λ t=>AV.s (dI (fE t) (jG t))⟩),(92,⟨R6,λ t=>AV.s (dI (mF t) (nP t))⟩),(98,⟨R7,λ t=>AV.s (dI (wU t) (BI t))⟩),(99,⟨R8,λ t=>AV.tup [.s (dI (tE t) (vE t)),.s (.pl (.bool (BH t)))]⟩),(100,⟨R9,λ t=>AV.s (dI (zX t) (DX t))⟩)],[],cX⟩,[(4,[1,2,4,6,7],[1,4,6])]⟩
def Re (x1:List Int) (n1 n6:Nat) (v7:Int) (aQ:List Int) (jV:Nat) (dE:List Int):St:={ tm:=[(1,.s (dI x1 n1)),(2,.s (.ptr 0 0 32)),(4,.s (.ptr 1 0 3)),(6,.s (.own 2 n6 1)),(7,.int .i64 v7)],hp:=[(0,{ ty:=23,n:=32,row:=Row.t (.ints .u8 aQ) }),(1,{ ty:=92,n:=3,row:=Row.mix [.pl (.raw (Value.slice none 0 0)),.pl (.raw (Value.slice none 0 0)),.pl (.raw (Value.slice none 0 0))] }),(2,{ ty:=5,n:=jV,row:=Row.t (.ints .u8 dE) })],nx:=3,sz:=108 }
def Yy:Code:=cN (bN [1,1,0,1,2] (bB Tryz.f55))
def Rf (fu:Nat):=mD prog (VW T0 R0 aG aO T1 R1 aM bK T2 R2 bE T3 R3 bS T4 R4 dG jU z6 BE BF f4f T5 R5 fE jG T6 R6 mF nP T7 R7 wU BI T8 R8 tE vE BH T9 R9 zX DX) fu [1,1,0,1,2] (bB Tryz.f55) (gI prog Tryz.f55)
abbrev bD5 (fu:Nat) (x1:List Int) (n1 n6:Nat) (v7:Int) (aQ:List Int) (jV:Nat) (dE:List Int):=eV prog (VW T0 R0 aG aO T1 R1 aM bK T2 R2 bE T3 R3 bS T4 R4 dG jU z6 BE BF f4f T5 R5 fE jG T6 R6 mF nP T7 R7 wU BI T8 R8 tE vE BH T9 R9 zX DX) fu Yy (Rf T0 R0 aG aO T1 R1 aM bK T2 R2 bE T3 R3 bS T4 R4 dG jU z6 BE BF f4f T5 R5 fE jG T6 R6 mF nP T7 R7 wU BI T8 R8 tE vE BH T9 R9 zX DX fu ) fu (some (Re x1 n1 n6 v7 aQ jV dE))
theorem bD6 (fu:Nat) (a:List Int) (d:Nat):aS prog Tryz.f55 (VW T0 R0 aG aO T1 R1 aM bK T2 R2 bE T3 R3 bS T4 R4 dG jU z6 BE BF f4f T5 R5 fE jG T6 R6 mF nP T7 R7 wU BI T8 R8 tE vE BH T9 R9 zX DX) fu [.agg (.ints .u8 a) 32,eN d]=bD5 T0 R0 aG aO T1 R1 aM bK T2 R2 bE T3 R3 bS T4 R4 dG jU z6 BE BF f4f T5 R5 fE jG T6 R6 mF nP T7 R7 wU BI T8 R8 tE vE BH T9 R9 zX DX fu (nb d) (nb d).length 32 0 a 32 (List.replicate 32 0):=by kernel_rfl
def MB (x1:List Int) (n1 n6 eM:Nat) (bC:List Int):St:={ tm:=[(1,.s (dI x1 n1)),(4,.s (.ptr 0 0 3)),(6,.s (.own 1 n6 1))],hp:=[(0,{ ty:=92,n:=3,row:=Row.mix [.pl (.raw (Value.slice none 0 0)),.pl (.raw (Value.slice none 0 0)),.pl (.raw (Value.slice none 0 0))] }),(1,{ ty:=5,n:=eM,row:=Row.t (.ints .u8 bC) })],nx:=2,sz:=108 }
theorem aLi {β:Type} (fu:Nat) (G:FG β) (H:FH β) (x1:List Int) (n1 n6:Nat) (v7:Int) (aQ:List Int) (jV:Nat) (dE:List Int):fV prog (VW T0 R0 aG aO T1 R1 aM bK T2 R2 bE T3 R3 bS T4 R4 dG jU z6 BE BF f4f T5 R5 fE jG T6 R6 mF nP T7 R7 wU BI T8 R8 tE vE BH T9 R9 zX DX) fu Yy G H (Re x1 n1 n6 v7 aQ jV dE)=bif decide (v7 < 32) then bif decide (0 <= v7 /\ v7 < 32) then bif decide (0 <= v7 /\ v7 < (n6:Int)) then G (some (Re x1 n1 n6 (i64.wrap (v7+1)) aQ jV (dE.set v7.toNat (aQ.getD (0+v7.toNat) 0)))) else none else none else H (Ex.exit 0) (some (MB x1 n1 n6 jV dE)):=by kernel_rfl
theorem aLj (fu:Nat) (x1:List Int) (n1 n6 eM:Nat) (bC:List Int):Rf T0 R0 aG aO T1 R1 aM bK T2 R2 bE T3 R3 bS T4 R4 dG jU z6 BE BF f4f T5 R5 fE jG T6 R6 mF nP T7 R7 wU BI T8 R8 tE vE BH T9 R9 zX DX fu  (Ex.exit 0) (MB x1 n1 n6 eM bC)=(R0 [.str (List.map b8 bC)]).bind λ t=>(R1 []).bind λ bY=>(R2 [.s (dI (aG t) (aO t)),.s (dI (aM bY) (bK bY))]).bind λ cJ=>bif decide (0 <= bE cJ) then (R4 []).bind λ t=>some (AV.tup [.mix [dI (dG t) (jU t),dI (z6 t) (BE t),dI (BF t) (f4f t)],.s (.pl (.bool false))]) else (R3 [.s (dI (aG t) (aO t))]).bind λ fF=>bif bS fF then (R4 []).bind λ t=>some (AV.tup [.mix [dI (dG t) (jU t),dI (z6 t) (BE t),dI (BF t) (f4f t)],.s (.pl (.bool false))]) else (R5 [.s (dI (aG t) (aO t)),.s (dI (aG t) (aO t))]).bind λ gA=>(R6 [.s (dI [1] 1),.s (dI (fE gA) (jG gA))]).bind λ gC=>(R7 [.s (dI [1] 1),.s (dI (fE gA) (jG gA))]).bind λ jJ=>(R5 [.s (dI (wU jJ) (BI jJ)),.s (dI (wU jJ) (BI jJ))]).bind λ nR=>(R5 [.s (dI (mF gC) (nP gC)),.s (dI (mF gC) (nP gC))]).bind λ nQ=>(R5 [.s (dI x1 n1),.s (dI (fE nQ) (jG nQ))]).bind λ qZ=>(R6 [.s (dI [] 0),.s (dI (fE qZ) (jG qZ))]).bind λ iJ=>(R6 [.s (dI (mF iJ) (nP iJ)),.s (dI (fE nR) (jG nR))]).bind λ i0=>(R5 [.s (dI (mF i0) (nP i0)),.s (dI (fE nR) (jG nR))]).bind λ kK=>(R8 [.s (dI [1] 1),.s (dI (fE kK) (jG kK))]).bind λ gQ=>(R5 [.s (dI (tE gQ) (vE gQ)),.s (dI (wU jJ) (BI jJ))]).bind λ i8=>(R5 [.s (dI (fE i8) (jG i8)),.s (dI (mF i0) (nP i0))]).bind λ tD=>(R5 [.s (dI (tE gQ) (vE gQ)),.s (dI (fE tD) (jG tD))]).bind λ oZ=>(R7 [.s (dI (aG t) (aO t)),.s (dI (aG t) (aO t))]).bind λ t=>(R5 [.s (dI (wU t) (BI t)),.s (dI (fE i8) (jG i8))]).bind λ t=>(R9 [.s (dI (fE t) (jG t))]).bind λ t=>(R5 [.s (dI (mF gC) (nP gC)),.s (dI (fE oZ) (jG oZ))]).bind λ iG=>bif !BH gQ then (R4 []).bind λ t=>some (AV.tup [.mix [dI (dG t) (jU t),dI (z6 t) (BE t),dI (BF t) (f4f t)],.s (.pl (.bool false))]) else (R5 [.s (dI (zX t) (DX t)),.s (dI (fE iG) (jG iG))]).bind λ jI=>(R3 [.s (dI (fE jI) (jG jI))]).bind λ qQ=>bif bS qQ then (R4 []).bind λ t=>some (AV.tup [.mix [dI (dG t) (jU t),dI (z6 t) (BE t),dI (BF t) (f4f t)],.s (.pl (.bool false))]) else bif decide ((↑(jG iG):Int)=0) then (R4 []).bind λ t=>some (AV.tup [.mix [dI (dG t) (jU t),dI (z6 t) (BE t),dI (BF t) (f4f t)],.s (.pl (.bool false))]) else some (AV.tup [.mix [dI (zX t) (DX t),dI (fE iG) (jG iG),dI [1] 1],.s (.pl (.bool true))]):=by kernel_rfl
end
def VX:Cg:=⟨⟨cV [],[],cX⟩,[(4,[1,3,4],[3])]⟩
def Rg (n3:Nat) (v4:Int) (aQ:List Int) (eM:Nat) (bC:List Int):St:={ tm:=[(1,.s (.ptr 0 0 32)),(3,.s (.own 1 n3 1)),(4,.int .i64 v4)],hp:=[(0,{ ty:=23,n:=32,row:=Row.t (.ints .u8 aQ) }),(1,{ ty:=5,n:=eM,row:=Row.t (.ints .u8 bC) })],nx:=2,sz:=18 }
def Yz:Code:=cN (bN [1,1,0,1,2] (bB Tryz.f56))
def Y0 (fu:Nat):=mD prog VX fu [1,1,0,1,2] (bB Tryz.f56) (gI prog Tryz.f56)
abbrev bD7 (fu:Nat) (n3:Nat) (v4:Int) (aQ:List Int) (eM:Nat) (bC:List Int):=eV prog VX fu Yz (Y0 fu ) fu (some (Rg n3 v4 aQ eM bC))
theorem bD8 (fu:Nat) (a:List Int):aS prog Tryz.f56 VX fu [.agg (.ints .u8 a) 32]=bD7 fu 32 0 a 32 (List.replicate 32 0):=by kernel_rfl
def VY (n3 fL:Nat) (aQ:List Int):St:={ tm:=[(3,.s (.own 0 n3 1))],hp:=[(0,{ ty:=5,n:=fL,row:=Row.t (.ints .u8 aQ) })],nx:=1,sz:=18 }
theorem aLk {β:Type} (fu:Nat) (G:FG β) (H:FH β) (n3:Nat) (v4:Int) (aQ:List Int) (eM:Nat) (bC:List Int):fV prog VX fu Yz G H (Rg n3 v4 aQ eM bC)=bif decide (v4 < 32) then bif decide (0 <= v4 /\ v4 < 32) then bif decide (0 <= v4 /\ v4 < (n3:Int)) then G (some (Rg n3 (i64.wrap (v4+1)) aQ eM (bC.set v4.toNat (aQ.getD (0+v4.toNat) 0)))) else none else none else H (Ex.exit 0) (some (VY n3 eM bC)):=by kernel_rfl
theorem aLl (fu:Nat) (n3 fL:Nat) (aQ:List Int):Y0 fu  (Ex.exit 0) (VY n3 fL aQ)=some (AV.str (List.map b8 aQ)):=by kernel_rfl
section
variable (T0:Type) (R0:FA T0) (aG:T0->List Int) (aO:T0->Nat) (cE:T0->List Int) (cI:T0->Nat) (cP:T0->List Int) (Wq:T0->Nat) (T1:Type) (R1:FA T1) (aM:T1->List Int)
def aXK:Cg:=⟨⟨cV [(102,⟨R0,λ t=>AV.c (.mix [dI (aG t) (aO t),dI (cE t) (cI t),dI (cP t) (Wq t)])⟩),(101,⟨R1,λ t=>AV.agg (.ints .u8 (aM t)) 32⟩)],[],cX⟩,[]⟩
theorem bD9 (fu:Nat) (p:RP) (k d:Nat):aS prog Tryz.f57 (aXK T0 R0 aG aO cE cI cP Wq T1 R1 aM) fu [HC p,eN k,eN d]=(R0 [.c (.mix [dI (nb p.x) (nb p.x).length,dI (nb p.y) (nb p.y).length,dI (nb p.z) (nb p.z).length]),.s (dI (nb k) (nb k).length),.s (dI (nb d) (nb d).length)]).bind λ t=>(R1 [.c (.mix [dI (aG t) (aO t),dI (cE t) (cI t),dI (cP t) (Wq t)])]).bind λ t=>some (AV.agg (.ints .u8 (aM t)) 32):=by kernel_rfl
end
section
variable (T0:Type) (R0:FA T0) (aG:T0->List Int) (aO:T0->Nat) (T1:Type) (R1:FA T1) (aM:T1->List Int) (bK:T1->Nat) (iH:T1->List Int) (iI:T1->Nat) (iP:T1->List Int) (f1f:T1->Nat) (f1g:T1->Bool) (T2:Type) (R2:FA T2) (bE:T2->List Int) (T3:Type) (R3:FA T3) (bS:T3->List UInt8)
def aXL:Cg:=⟨⟨cV [(54,⟨R0,λ t=>AV.s (dI (aG t) (aO t))⟩),(55,⟨R1,λ t=>AV.tup [.mix [dI (aM t) (bK t),dI (iH t) (iI t),dI (iP t) (f1f t)],.s (.pl (.bool (f1g t)))]⟩),(57,⟨R2,λ t=>AV.agg (.ints .u8 (bE t)) 32⟩),(56,⟨R3,λ t=>AV.str (bS t)⟩)],[],cX⟩,[]⟩
theorem bEa (fu:Nat) (k:Nat) (b:List Int):aS prog Tryz.f22 (aXL T0 R0 aG aO T1 R1 aM bK iH iI iP f1f f1g T2 R2 bE T3 R3 bS) fu [eN k,.agg (.ints .u8 b) 32]=(R0 []).bind λ t=>(R1 [.agg (.ints .u8 b) 32,.s (dI (aG t) (aO t))]).bind λ bY=>bif !f1g bY then some (AV.tup [.s (.pl (.str [])),.s (.pl (.int .i64 8))]) else bif decide (b=[0,0,0,0,0,0,0,0,0,0,0,0,0,0,0,0,0,0,0,0,0,0,0,0,0,0,0,0,0,0,0,0]) then some (AV.tup [.s (.pl (.str [])),.s (.pl (.int .i64 9))]) else bif decide ((↑(nb k).length:Int)=0) then some (AV.tup [.s (.pl (.str [])),.s (.pl (.int .i64 9))]) else (R2 [.c (.mix [dI (aM bY) (bK bY),dI (iH bY) (iI bY),dI (iP bY) (f1f bY)]),.s (dI (nb k) (nb k).length),.s (dI (aG t) (aO t))]).bind λ t=>(R3 [.agg (.ints .u8 (bE t)) 32]).bind λ t=>some (AV.tup [.s (.pl (.str (bS t))),.s (.pl (.int .i64 0))]):=by kernel_rfl
end
section
variable (T0:Type) (R0:FA T0) (aG:T0->Str) (aO:T0->Int)
def aXM:Cg:=⟨⟨cV [(22,⟨R0,λ t=>AV.tup [.s (.pl (.str (aG t))),.s (.pl (.int .i64 (aO t)))]⟩)],[],cX⟩,[(4,[4,9,10,11],[2,3,4]),(1000004,[5],[])]⟩
theorem bEb (fu:Nat) (k1 k2 k3:Nat) (a0 a1 a2 a3 a4 a5 a6 a7 a8 a9 a10 a11 a12 a13 a14 a15 a16 a17 a18 a19 a20 a21 a22 a23 a24 a25 a26 a27 a28 a29 a30 a31 b0 b1 b2 b3 b4 b5 b6 b7 b8 b9 b10 b11 b12 b13 b14 b15 b16 b17 b18 b19 b20 b21 b22 b23 b24 b25 b26 b27 b28 b29 b30 b31 c0 c1 c2 c3 c4 c5 c6 c7 c8 c9 c10 c11 c12 c13 c14 c15 c16 c17 c18 c19 c20 c21 c22 c23 c24 c25 c26 c27 c28 c29 c30 c31:Int):aS prog Tryz.f9 (aXM T0 R0 aG aO) fu [.c (CV.rdat (prC (nb k1) (nb k1).length [a0,a1,a2,a3,a4,a5,a6,a7,a8,a9,a10,a11,a12,a13,a14,a15,a16,a17,a18,a19,a20,a21,a22,a23,a24,a25,a26,a27,a28,a29,a30,a31]++(prC (nb k2) (nb k2).length [b0,b1,b2,b3,b4,b5,b6,b7,b8,b9,b10,b11,b12,b13,b14,b15,b16,b17,b18,b19,b20,b21,b22,b23,b24,b25,b26,b27,b28,b29,b30,b31]++prC (nb k3) (nb k3).length [c0,c1,c2,c3,c4,c5,c6,c7,c8,c9,c10,c11,c12,c13,c14,c15,c16,c17,c18,c19,c20,c21,c22,c23,c24,c25,c26,c27,c28,c29,c30,c31])) 3 33)]=(R0 [.s (dI (nb k1) (nb k1).length),.agg (.ints .u8 [a0,a1,a2,a3,a4,a5,a6,a7,a8,a9,a10,a11,a12,a13,a14,a15,a16,a17,a18,a19,a20,a21,a22,a23,a24,a25,a26,a27,a28,a29,a30,a31]) 32]).bind λ t=>bif !decide (aO t=0) then some (AV.tup [.s (.pl (.str [])),.s (.pl (.int .i64 (aO t)))]) else bif decide (0+List.length (aG t) <= 9223372036854775807) then (R0 [.s (dI (nb k2) (nb k2).length),.agg (.ints .u8 [b0,b1,b2,b3,b4,b5,b6,b7,b8,b9,b10,b11,b12,b13,b14,b15,b16,b17,b18,b19,b20,b21,b22,b23,b24,b25,b26,b27,b28,b29,b30,b31]) 32]).bind λ bY=>bif !decide (aO bY=0) then some (AV.tup [.s (.pl (.str [])),.s (.pl (.int .i64 (aO bY)))]) else bif decide (List.length ([]++aG t)+List.length (aG bY) <= 9223372036854775807) then (R0 [.s (dI (nb k3) (nb k3).length),.agg (.ints .u8 [c0,c1,c2,c3,c4,c5,c6,c7,c8,c9,c10,c11,c12,c13,c14,c15,c16,c17,c18,c19,c20,c21,c22,c23,c24,c25,c26,c27,c28,c29,c30,c31]) 32]).bind λ cJ=>bif !decide (aO cJ=0) then some (AV.tup [.s (.pl (.str [])),.s (.pl (.int .i64 (aO cJ)))]) else bif decide (List.length ([]++aG t++aG bY)+List.length (aG cJ) <= 9223372036854775807) then some (AV.tup [.s (.pl (.str ([]++aG t++aG bY++aG cJ))),.s (.pl (.int .i64 0))]) else none else none else none:=by kernel_rfl
end
section
variable (T0:Type) (R0:FA T0) (T1:Type) (R1:FA T1) (aM bK iH iI iP f1f f1g f1h:T1->Int) (T2:Type) (R2:FA T2) (bE:T2->List Int) (bU:T2->Nat) (T3:Type) (R3:FA T3) (bS:T3->List Int) (eX:T3->Nat) (T4:Type) (R4:FA T4) (dG:T4->Str) (jU:T4->Int) (T5:Type) (R5:FA T5) (fE:T5->Str) (jG:T5->Int) (T6:Type) (R6:FA T6) (mF:T6->Str) (nP:T6->Int)
def aXN:Cg:=⟨⟨cV [(4,⟨R0,λ t=>AV.bool (true)⟩),(5,⟨R1,λ t=>aU [(aM t),(bK t),(iH t),(iI t),(iP t),(f1f t),(f1g t),(f1h t)] 8⟩),(7,⟨R2,λ t=>AV.s (dI (bE t) (bU t))⟩),(6,⟨R3,λ t=>AV.s (dI (bS t) (eX t))⟩),(8,⟨R4,λ t=>AV.tup [.s (.pl (.str (dG t))),.s (.pl (.int .i64 (jU t)))]⟩),(9,⟨R5,λ t=>AV.tup [.s (.pl (.str (fE t))),.s (.pl (.int .i64 (jG t)))]⟩),(10,⟨R6,λ t=>AV.tup [.s (.pl (.str (mF t))),.s (.pl (.int .i64 (nP t)))]⟩)],[],cX⟩,[]⟩
theorem bEc (fu:Nat) (a b:List Int) (s0 s1 s2 s3 s4 s5 s6 s7 s8 s9 s10 s11 s12 s13 s14 s15 s16 s17 s18 s19 s20 s21 s22 s23 s24 s25 s26 s27 s28 s29 s30 s31 t0 t1 t2 t3 t4 t5 t6 t7 t8 t9 t10 t11 t12 t13 t14 t15 t16 t17 t18 t19 t20 t21 t22 t23 t24 t25 t26 t27 t28 t29 t30 t31:Int):aS prog o8 (aXN T0 R0 T1 R1 aM bK iH iI iP f1f f1g f1h T2 R2 bE bU T3 R3 bS eX T4 R4 dG jU T5 R5 fE jG T6 R6 mF nP) fu [.agg (.ints .u8 a) 32,.agg (.ints .u8 b) 32,.agg (.ints .u8 [s0,s1,s2,s3,s4,s5,s6,s7,s8,s9,s10,s11,s12,s13,s14,s15,s16,s17,s18,s19,s20,s21,s22,s23,s24,s25,s26,s27,s28,s29,s30,s31]) 32,.agg (.ints .u8 [t0,t1,t2,t3,t4,t5,t6,t7,t8,t9,t10,t11,t12,t13,t14,t15,t16,t17,t18,t19,t20,t21,t22,t23,t24,t25,t26,t27,t28,t29,t30,t31]) 32]=(R0 []).bind λ t=>(R1 [.agg (.ints .u8 a) 32]).bind λ t=>(R1 [.agg (.ints .u8 b) 32]).bind λ bY=>(R2 [.agg (.ints .u8 a) 32]).bind λ cJ=>(R3 [.s (dI (bE cJ) (bU cJ))]).bind λ fF=>(R2 [.agg (.ints .u8 b) 32]).bind λ gA=>(R3 [.s (dI (bE gA) (bU gA))]).bind λ gC=>(R4 [.c (.mix [.pl (.int .u64 (aM t)),.pl (.int .u64 (bK t)),.pl (.int .u64 (iH t)),.pl (.int .u64 (iI t)),.pl (.int .u64 (iP t)),.pl (.int .u64 (f1f t)),.pl (.int .u64 (f1g t)),.pl (.int .u64 (f1h t)),.pl (.int .u64 (aM bY)),.pl (.int .u64 (bK bY)),.pl (.int .u64 (iH bY)),.pl (.int .u64 (iI bY)),.pl (.int .u64 (iP bY)),.pl (.int .u64 (f1f bY)),.pl (.int .u64 (f1g bY)),.pl (.int .u64 (f1h bY)),.pl (.int .u8 (s0)),.pl (.int .u8 (s1)),.pl (.int .u8 (s2)),.pl (.int .u8 (s3)),.pl (.int .u8 (s4)),.pl (.int .u8 (s5)),.pl (.int .u8 (s6)),.pl (.int .u8 (s7)),.pl (.int .u8 (s8)),.pl (.int .u8 (s9)),.pl (.int .u8 (s10)),.pl (.int .u8 (s11)),.pl (.int .u8 (s12)),.pl (.int .u8 (s13)),.pl (.int .u8 (s14)),.pl (.int .u8 (s15)),.pl (.int .u8 (s16)),.pl (.int .u8 (s17)),.pl (.int .u8 (s18)),.pl (.int .u8 (s19)),.pl (.int .u8 (s20)),.pl (.int .u8 (s21)),.pl (.int .u8 (s22)),.pl (.int .u8 (s23)),.pl (.int .u8 (s24)),.pl (.int .u8 (s25)),.pl (.int .u8 (s26)),.pl (.int .u8 (s27)),.pl (.int .u8 (s28)),.pl (.int .u8 (s29)),.pl (.int .u8 (s30)),.pl (.int .u8 (s31)),.pl (.int .u8 (t0)),.pl (.int .u8 (t1)),.pl (.int .u8 (t2)),.pl (.int .u8 (t3)),.pl (.int .u8 (t4)),.pl (.int .u8 (t5)),.pl (.int .u8 (t6)),.pl (.int .u8 (t7)),.pl (.int .u8 (t8)),.pl (.int .u8 (t9)),.pl (.int .u8 (t10)),.pl (.int .u8 (t11)),.pl (.int .u8 (t12)),.pl (.int .u8 (t13)),.pl (.int .u8 (t14)),.pl (.int .u8 (t15)),.pl (.int .u8 (t16)),.pl (.int .u8 (t17)),.pl (.int .u8 (t18)),.pl (.int .u8 (t19)),.pl (.int .u8 (t20)),.pl (.int .u8 (t21)),.pl (.int .u8 (t22)),.pl (.int .u8 (t23)),.pl (.int .u8 (t24)),.pl (.int .u8 (t25)),.pl (.int .u8 (t26)),.pl (.int .u8 (t27)),.pl (.int .u8 (t28)),.pl (.int .u8 (t29)),.pl (.int .u8 (t30)),.pl (.int .u8 (t31))])]).bind λ jJ=>(R5 [.c (CV.rdat [dI (bS fF) (eX fF),.pl (.int .u8 s0),.pl (.int .u8 s1),.pl (.int .u8 s2),.pl (.int .u8 s3),.pl (.int .u8 s4),.pl (.int .u8 s5),.pl (.int .u8 s6),.pl (.int .u8 s7),.pl (.int .u8 s8),.pl (.int .u8 s9),.pl (.int .u8 s10),.pl (.int .u8 s11),.pl (.int .u8 s12),.pl (.int .u8 s13),.pl (.int .u8 s14),.pl (.int .u8 s15),.pl (.int .u8 s16),.pl (.int .u8 s17),.pl (.int .u8 s18),.pl (.int .u8 s19),.pl (.int .u8 s20),.pl (.int .u8 s21),.pl (.int .u8 s22),.pl (.int .u8 s23),.pl (.int .u8 s24),.pl (.int .u8 s25),.pl (.int .u8 s26),.pl (.int .u8 s27),.pl (.int .u8 s28),.pl (.int .u8 s29),.pl (.int .u8 s30),.pl (.int .u8 s31),dI (bS fF) (eX fF),.pl (.int .u8 t0),.pl (.int .u8 t1),.pl (.int .u8 t2),.pl (.int .u8 t3),.pl (.int .u8 t4),.pl (.int .u8 t5),.pl (.int .u8 t6),.pl (.int .u8 t7),.pl (.int .u8 t8),.pl (.int .u8 t9),.pl (.int .u8 t10),.pl (.int .u8 t11),.pl (.int .u8 t12),.pl (.int .u8 t13),.pl (.int .u8 t14),.pl (.int .u8 t15),.pl (.int .u8 t16),.pl (.int .u8 t17),.pl (.int .u8 t18),.pl (.int .u8 t19),.pl (.int .u8 t20),.pl (.int .u8 t21),.pl (.int .u8 t22),.pl (.int .u8 t23),.pl (.int .u8 t24),.pl (.int .u8 t25),.pl (.int .u8 t26),.pl (.int .u8 t27),.pl (.int .u8 t28),.pl (.int .u8 t29),.pl (.int .u8 t30),.pl (.int .u8 t31),dI (bS gC) (eX gC),.pl (.int .u8 s0),.pl (.int .u8 s1),.pl (.int .u8 s2),.pl (.int .u8 s3),.pl (.int .u8 s4),.pl (.int .u8 s5),.pl (.int .u8 s6),.pl (.int .u8 s7),.pl (.int .u8 s8),.pl (.int .u8 s9),.pl (.int .u8 s10),.pl (.int .u8 s11),.pl (.int .u8 s12),.pl (.int .u8 s13),.pl (.int .u8 s14),.pl (.int .u8 s15),.pl (.int .u8 s16),.pl (.int .u8 s17),.pl (.int .u8 s18),.pl (.int .u8 s19),.pl (.int .u8 s20),.pl (.int .u8 s21),.pl (.int .u8 s22),.pl (.int .u8 s23),.pl (.int .u8 s24),.pl (.int .u8 s25),.pl (.int .u8 s26),.pl (.int .u8 s27),.pl (.int .u8 s28),.pl (.int .u8 s29),.pl (.int .u8 s30),.pl (.int .u8 s31)] 3 33)]).bind λ nR=>(R6 [.c (.mix [.pl (.int .u64 (aM t)),.pl (.int .u64 (bK t)),.pl (.int .u64 (iH t)),.pl (.int .u64 (iI t)),.pl (.int .u64 (iP t)),.pl (.int .u64 (f1f t)),.pl (.int .u64 (f1g t)),.pl (.int .u64 (f1h t)),.pl (.int .u64 (aM bY)),.pl (.int .u64 (bK bY)),.pl (.int .u64 (iH bY)),.pl (.int .u64 (iI bY)),.pl (.int .u64 (iP bY)),.pl (.int .u64 (f1f bY)),.pl (.int .u64 (f1g bY)),.pl (.int .u64 (f1h bY)),.pl (.int .u8 (s0)),.pl (.int .u8 (s1)),.pl (.int .u8 (s2)),.pl (.int .u8 (s3)),.pl (.int .u8 (s4)),.pl (.int .u8 (s5)),.pl (.int .u8 (s6)),.pl (.int .u8 (s7)),.pl (.int .u8 (s8)),.pl (.int .u8 (s9)),.pl (.int .u8 (s10)),.pl (.int .u8 (s11)),.pl (.int .u8 (s12)),.pl (.int .u8 (s13)),.pl (.int .u8 (s14)),.pl (.int .u8 (s15)),.pl (.int .u8 (s16)),.pl (.int .u8 (s17)),.pl (.int .u8 (s18)),.pl (.int .u8 (s19)),.pl (.int .u8 (s20)),.pl (.int .u8 (s21)),.pl (.int .u8 (s22)),.pl (.int .u8 (s23)),.pl (.int .u8 (s24)),.pl (.int .u8 (s25)),.pl (.int .u8 (s26)),.pl (.int .u8 (s27)),.pl (.int .u8 (s28)),.pl (.int .u8 (s29)),.pl (.int .u8 (s30)),.pl (.int .u8 (s31)),.pl (.int .u8 (t0)),.pl (.int .u8 (t1)),.pl (.int .u8 (t2)),.pl (.int .u8 (t3)),.pl (.int .u8 (t4)),.pl (.int .u8 (t5)),.pl (.int .u8 (t6)),.pl (.int .u8 (t7)),.pl (.int .u8 (t8)),.pl (.int .u8 (t9)),.pl (.int .u8 (t10)),.pl (.int .u8 (t11)),.pl (.int .u8 (t12)),.pl (.int .u8 (t13)),.pl (.int .u8 (t14)),.pl (.int .u8 (t15)),.pl (.int .u8 (t16)),.pl (.int .u8 (t17)),.pl (.int .u8 (t18)),.pl (.int .u8 (t19)),.pl (.int .u8 (t20)),.pl (.int .u8 (t21)),.pl (.int .u8 (t22)),.pl (.int .u8 (t23)),.pl (.int .u8 (t24)),.pl (.int .u8 (t25)),.pl (.int .u8 (t26)),.pl (.int .u8 (t27)),.pl (.int .u8 (t28)),.pl (.int .u8 (t29)),.pl (.int .u8 (t30)),.pl (.int .u8 (t31))])]).bind λ t=>(R5 [.c (CV.rdat [dI (bS fF) (eX fF),.pl (.int .u8 s0),.pl (.int .u8 s1),.pl (.int .u8 s2),.pl (.int .u8 s3),.pl (.int .u8 s4),.pl (.int .u8 s5),.pl (.int .u8 s6),.pl (.int .u8 s7),.pl (.int .u8 s8),.pl (.int .u8 s9),.pl (.int .u8 s10),.pl (.int .u8 s11),.pl (.int .u8 s12),.pl (.int .u8 s13),.pl (.int .u8 s14),.pl (.int .u8 s15),.pl (.int .u8 s16),.pl (.int .u8 s17),.pl (.int .u8 s18),.pl (.int .u8 s19),.pl (.int .u8 s20),.pl (.int .u8 s21),.pl (.int .u8 s22),.pl (.int .u8 s23),.pl (.int .u8 s24),.pl (.int .u8 s25),.pl (.int .u8 s26),.pl (.int .u8 s27),.pl (.int .u8 s28),.pl (.int .u8 s29),.pl (.int .u8 s30),.pl (.int .u8 s31),dI (bS gC) (eX gC),.pl (.int .u8 s0),.pl (.int .u8 s1),.pl (.int .u8 s2),.pl (.int .u8 s3),.pl (.int .u8 s4),.pl (.int .u8 s5),.pl (.int .u8 s6),.pl (.int .u8 s7),.pl (.int .u8 s8),.pl (.int .u8 s9),.pl (.int .u8 s10),.pl (.int .u8 s11),.pl (.int .u8 s12),.pl (.int .u8 s13),.pl (.int .u8 s14),.pl (.int .u8 s15),.pl (.int .u8 s16),.pl (.int .u8 s17),.pl (.int .u8 s18),.pl (.int .u8 s19),.pl (.int .u8 s20),.pl (.int .u8 s21),.pl (.int .u8 s22),.pl (.int .u8 s23),.pl (.int .u8 s24),.pl (.int .u8 s25),.pl (.int .u8 s26),.pl (.int .u8 s27),.pl (.int .u8 s28),.pl (.int .u8 s29),.pl (.int .u8 s30),.pl (.int .u8 s31),dI (bS fF) (eX fF),.pl (.int .u8 t0),.pl (.int .u8 t1),.pl (.int .u8 t2),.pl (.int .u8 t3),.pl (.int .u8 t4),.pl (.int .u8 t5),.pl (.int .u8 t6),.pl (.int .u8 t7),.pl (.int .u8 t8),.pl (.int .u8 t9),.pl (.int .u8 t10),.pl (.int .u8 t11),.pl (.int .u8 t12),.pl (.int .u8 t13),.pl (.int .u8 t14),.pl (.int .u8 t15),.pl (.int .u8 t16),.pl (.int .u8 t17),.pl (.int .u8 t18),.pl (.int .u8 t19),.pl (.int .u8 t20),.pl (.int .u8 t21),.pl (.int .u8 t22),.pl (.int .u8 t23),.pl (.int .u8 t24),.pl (.int .u8 t25),.pl (.int .u8 t26),.pl (.int .u8 t27),.pl (.int .u8 t28),.pl (.int .u8 t29),.pl (.int .u8 t30),.pl (.int .u8 t31)] 3 33)]).bind λ nQ=>some (AV.bool (decide (dG jJ=fE nR) && decide (jU jJ=jG nR) && decide (mF t=fE nQ) && decide (nP t=jG nQ))):=by kernel_rfl
end
set_option maxRecDepth 8000
theorem aCn (s d:Nat):rXR s d < aK:=by
 unfold rXR;exact J0 (mP _)
theorem aCo (s d:Nat):VU s d < aK:=by
 unfold VU;exact mP _
theorem aSO (a:List Int) (d:Nat):(AU a d).1.ok:=by
 unfold AU;cases (Nat.blt (vB a) aK && Ow (vB a) d)
 ·exact Gb
 ·exact ⟨aCn _ _,aCo _ _,tM⟩
theorem aLm (n:Nat):(lo 32 n).length=32:=fS 32 n
theorem aSP (k:Nat) (b:List Int):(JK k b).1.length=32:=by
 unfold JK;cases (AU b TI).2
 ·rfl
 ·cases (decide (b=nE) || Nat.beq k 0)
  ·exact aLm _
  ·rfl
theorem MC (k:Nat) (b:List Int):(Rc (JK k b)).1.length <= 32:=by
 unfold Rc;cases decide ((JK k b).2=0)
 ·exact oI _
 ·show ((JK k b).1.map b8).length <= 32;rw [eZ,aSP]; exact bX _
abbrev aLn:Cg:=VW (Nat) BW (λ t=>nb t) (λ t=>(nb t).length) (Nat) rRP (λ t=>nb t) (λ t=>(nb t).length) (Int) pN (λ t=>t) (Bool) IM (λ t=>t) (RP) CK (λ t=>nb t.x) (λ t=>(nb t.x).length) (λ t=>nb t.y) (λ t=>(nb t.y).length) (λ t=>nb t.z) (λ t=>(nb t.z).length) (Nat) qV (λ t=>nb t) (λ t=>(nb t).length) (Nat) Ay (λ t=>nb t) (λ t=>(nb t).length) (Nat) IL (λ t=>nb t) (λ t=>(nb t).length) (Nat × Bool) Kb (λ t=>nb t.fst) (λ t=>(nb t.fst).length) (λ t=>t.2) (Nat) FM (λ t=>nb t) (λ t=>(nb t).length)
theorem aSQ:CfOk prog aLn.c:=gk <| aA Wh <| aA OX <| aA DJ <| aA Qx <| aA Vx <| aA xN <| aA GC <| aA Qw <| aA aCD <| aA Jc <| aH
theorem CB {x:Option AV} (h:x=some (L8.enc (tA,false))):(CK []).bind (λ t=>some (AV.tup [CV.mix [SV.dat (TRow.ints i64 (nb t.x)) (nb t.x).length 1,SV.dat (TRow.ints i64 (nb t.y)) (nb t.y).length 1,SV.dat (TRow.ints i64 (nb t.z)) (nb t.z).length 1],CV.s (SV.pl (Pl.bool false))]))=x:=by
 rw [h]; rfl
theorem bEd (a:List Int) (d:Nat) (ha:dP a=true) (hd:d < aK) (m fu:Nat) :
  Rf _ BW (λ t=>nb t) (λ t=>(nb t).length) _ rRP (λ t=>nb t) (λ t=>(nb t).length) _ pN (λ t=>t) _ IM (λ t=>t) _ CK (λ t=>nb t.x) (λ t=>(nb t.x).length) (λ t=>nb t.y) (λ t=>(nb t.y).length) (λ t=>nb t.z) (λ t=>(nb t.z).length) _ qV (λ t=>nb t) (λ t=>(nb t).length) _ Ay (λ t=>nb t) (λ t=>(nb t).length) _ IL (λ t=>nb t) (λ t=>(nb t).length) _ Kb (λ t=>nb t.fst) (λ t=>(nb t.fst).length) (λ t=>t.2) _ FM (λ t=>nb t) (λ t=>(nb t).length) fu (Ex.exit 0) (MB (nb d) (nb d).length 32 m a)=some (L8.enc (AU a d)):=by
 obtain ⟨hl,hb⟩:=fW ha;have h0:BW [.str (a.map b8)]=some (vB a):=by rw [PV (by rw [eZ]; omega),aDK hb]
 have hv:=IR a hb;rw [hl] at hv;have hvM:(nb (vB a)).length <= 1048576:=dC (AF (k:=32) hv) (by decide);have hP:(nb aK).length <= 1048576:=by rw [Yc]; decide
 have h2:=oY (x:=vB a) (y:=aK) hvM hP;refine (aLj ..).trans ?_;refine aI h0 ?_;refine aI Hp ?_;refine aI h2 ?_;rw [Co];unfold AU;cases hlt:Nat.blt (vB a) aK
 ·have hge:¬ vB a < aK:=λ h=>by rw [cY.mpr h] at hlt; cases hlt
  rw [aD (by omega),aB,tY,aE];exact CB rfl
 have hs:=cY.mp hlt;rw [aJ (by omega),aE,mO];clear h0 h2 hlt hvM;generalize vB a=s at *;unfold Ow;refine aI (B4 (nbL hs)) ?_;cases Nat.beq (s%2) 1;rotate_left
 ·exact CB rfl
 rw [aE,jB,mO];have u1:Yw s < aK:=mP _;have u2:Nc s < aK:=mP _;have hV:rVR s d < aK:=by unfold rVR; exact mP _
 have e1:Ay [eN 1,eN (s*s%aK)]=some (Yw s):=pW tM (mP _);have e2:IL [eN 1,eN (s*s%aK)]=some (Nc s):=zJ tM (mP _);have e5:=bQ hd (mP (Yw s*Yw s));have e6:=pW aAw (mP (d*(Yw s*Yw s%aK)));have e7:Ay [eN ((0+aK - d*(Yw s*Yw s%aK)%aK)%aK),eN (Nc s*Nc s%aK)]=some (rVR s d):=pW (mP _) (mP _);have e8:=bQ hV (mP (Nc s*Nc s));have e9:Kb [eN 1,eN (rVR s d*(Nc s*Nc s%aK)%aK)]=some (rIR s d):=V1 tM (mP _);have hI:(rIR s d).1 < aK:=by unfold rIR; exact TO tM (mP _)
 have dX:rXR s d=q9 ((s+s)%aK*((rIR s d).1*Nc s%aK)%aK):=rfl;have dY:VU s d=Yw s*((rIR s d).1*((rIR s d).1*Nc s%aK*rVR s d%aK)%aK)%aK:=rfl;have hX:=aCn s d;have hY:=aCo s d;have f1:=bQ hs hs;have f2:=bQ u2 u2;have f3:=bQ u1 u1;generalize rXR s d=X at *;generalize VU s d=Y at *;generalize rIR s d=I at *;generalize rVR s d=V at *;generalize Yw s=U1 at *;generalize Nc s=U2 at *;obtain ⟨i,ok⟩:=I;dsimp only at *;refine aI f1 ?_;refine aI e1 ?_;refine aI e2 ?_;refine aI f2 ?_;refine aI f3 ?_;refine aI e5 ?_;refine aI e6 ?_;refine aI e7 ?_;refine aI e8 ?_;refine aI e9 ?_;refine aI (bQ hI u2) ?_;refine aI (bQ (mP (i*U2)) hV) ?_;refine aI (bQ hI (mP (i*U2%aK*V))) ?_;refine aI (zJ hs hs) ?_;refine aI (bQ (mP (s+s)) (mP (i*U2))) ?_;refine aI (B5 (mP ((s+s)%aK*(i*U2%aK)))) ?_;rw [<-dX];refine aI (bQ u1 (mP (i*(i*U2%aK*V%aK)))) ?_;rw [<-dY];cases ok
 ·exact CB rfl
 rw [iD,aE,mO];refine aI (bQ hX hY) ?_;refine aI (B4 (nbL (mP (X*Y)))) ?_;cases Nat.beq (X*Y%aK%2) 1;rotate_left
 ·exact CB rfl
 rw [aE,jB,mO,aCT];cases Nat.beq Y 0
 ·rw [aE,jB,aB];show some (AV.tup [CV.mix [SV.dat (TRow.ints i64 (nb X)) (nb X).length 1,SV.dat (TRow.ints i64 (nb Y)) (nb Y).length 1,SV.dat (TRow.ints i64 [1]) 1 1],CV.s (SV.pl (Pl.bool true))])=some (AV.tup [CV.mix [SV.dat (TRow.ints i64 (nb X)) (nb X).length 1,SV.dat (TRow.ints i64 (nb Y)) (nb Y).length 1,SV.dat (TRow.ints i64 (nb 1)) (nb 1).length 1],CV.s (SV.pl (Pl.bool true))]);rw [show nb 1=[1] by decide]; rfl
 ·exact CB rfl
theorem aSR (a:List Int) (d:Nat) (ha:dP a=true) (hd:d < aK) (m fu:Nat):∀ (e n i:Nat),i+e=32->e < n ->
  eV prog aLn fu Yy (Rf _ BW (λ t=>nb t) (λ t=>(nb t).length) _ rRP (λ t=>nb t) (λ t=>(nb t).length) _ pN (λ t=>t) _ IM (λ t=>t) _ CK (λ t=>nb t.x) (λ t=>(nb t.x).length) (λ t=>nb t.y) (λ t=>(nb t.y).length) (λ t=>nb t.z) (λ t=>(nb t.z).length) _ qV (λ t=>nb t) (λ t=>(nb t).length) _ Ay (λ t=>nb t) (λ t=>(nb t).length) _ IL (λ t=>nb t) (λ t=>(nb t).length) _ Kb (λ t=>nb t.fst) (λ t=>(nb t.fst).length) (λ t=>t.2) _ FM (λ t=>nb t) (λ t=>(nb t).length) fu) n (some (Re (nb d) (nb d).length 32 (i:Int) a m (a.take i++List.replicate (32 - i) 0)))=some (L8.enc (AU a d)):=by
 obtain ⟨hl,hb⟩:=fW ha;intro e
 induction e with
 | zero=>
  intro n i hi hn;obtain ⟨n,rfl⟩:=aP (by omega:n ≠ 0);have e:i=32:=by omega
  subst e;rw [aF,aLi,aJ (by omega),aE,aR,iL,sJ,jC,d9 (by omega)];exact bEd a d ha hd m fu
 | succ e ih=>
  intro n i hi hn;obtain ⟨n,rfl⟩:=aP (by omega:n ≠ 0);have h:=ih n (i+1) (by omega) (by omega);rw [aF,aLi,aD (by omega),aB,aD (by omega),aB,aD (by omega),aB,bD,bT,Jb a 32 i hl (by omega),bW (by omega) (by omega)];exact h
theorem aLo:CallOk prog 55 L8:=by
 refine aZ (fu:=λ _=>40) aSQ Tryz.func55 ?_;intro args t ht;obtain ⟨a,d,rfl,ha,hd,rfl⟩:=aHY (F:=AU) ht;refine (bD6 ..).trans ?_;exact aSR a d ha hd 32 40 32 40 0 (by omega) (by omega)
theorem aFq {a:List Int} {d:Nat} (ha:dP a=true) (hd:d < aK):aLh [pG a,eN d]=some (AU a d):=bAX AU ha hd
abbrev aLp:Cg:=VX 
theorem aSS:CfOk prog aLp.c:=gk <| aH
theorem aST (a:List Int) (ha:dP a=true) (m fu:Nat):∀ (e n i:Nat),i+e=32->e < n ->
  eV prog aLp fu Yz (Y0 fu) n (some (Rg 32 (i:Int) a m (a.take i++List.replicate (32 - i) 0)))=some (.str (a.map b8)):=by
 obtain ⟨hl,hb⟩:=fW ha;intro e
 induction e with
 | zero=>
  intro n i hi hn;obtain ⟨n,rfl⟩:=aP (by omega:n ≠ 0);have e:i=32:=by omega
  subst e;rw [aF,aLk,aJ (by omega),aE,aR,iL,sJ,jC,d9 (by omega),aLl]
 | succ e ih=>
  intro n i hi hn;obtain ⟨n,rfl⟩:=aP (by omega:n ≠ 0);have h:=ih n (i+1) (by omega) (by omega);rw [aF,aLk,aD (by omega),aB,aD (by omega),aB,aD (by omega),aB,bD,bT,Jb a 32 i hl (by omega),bW (by omega) (by omega)];exact h
theorem aSU:CallOk prog 56 aXG:=by
 refine aZ (fu:=λ _=>40) aSS Tryz.func56 ?_;intro args t ht;obtain ⟨a,rfl,ha,rfl⟩:=sX (F:=λ a=>a.map b8) ht;refine (bD8 ..).trans ?_;exact aST a ha 32 40 32 40 0 (by omega) (by omega)
theorem aLq {a:List Int} (h:dP a=true):aXH [pG a]=some (a.map b8):=B2 (λ a=>a.map b8) h
abbrev bEe:Cg:=aXK (RP) aCw (λ t=>nb t.x) (λ t=>(nb t.x).length) (λ t=>nb t.y) (λ t=>(nb t.y).length) (λ t=>nb t.z) (λ t=>(nb t.z).length) (List Int) Tl (λ t=>t)
theorem aSV:CfOk prog bEe.c:=gk <| aA aFF <| aA XN <| aH
theorem aSW:CallOk prog 57 aXI:=by
 refine fO aSV Tryz.func57 ?_;intro args t ht;obtain ⟨p,n,d,rfl,hp,hn,hc,hd,rfl⟩:=O2 (F:=VV) (C:=λ n=>Nat.blt n i9) ht;refine (bD9 ..).trans ?_;refine aI (ZH hp (cY.mp hc) hd) ?_;refine aI (Tn (aFE p n d)) ?_;rfl
theorem aLr {p:RP} {n d:Nat} (h:p.ok) (hn:n < i9) (hd:d < aK):aXJ [HC p,eN n,eN d]=some (VV p n d) :=
 aCz VV (λ n=>Nat.blt n i9) h (dC (dL (k:=64) hn) (by decide)) (cY.mpr hn) hd
abbrev bEf:Cg:=aXL (Nat) rRD (λ t=>nb t) (λ t=>(nb t).length) (RP × Bool) aLh (λ t=>nb t.fst.x) (λ t=>(nb t.fst.x).length) (λ t=>nb t.fst.y) (λ t=>(nb t.fst.y).length) (λ t=>nb t.fst.z) (λ t=>(nb t.fst.z).length) (λ t=>t.2) (List Int) aXJ (λ t=>t) (List UInt8) aXH (λ t=>t)
theorem aSX:CfOk prog bEf.c:=gk <| aA bHR <| aA aLo <| aA aSW <| aA aSU <| aH
theorem aLs:TI < aK:=by decide
theorem aFr:CallOk prog 22 Rd:=by
 refine fO aSX Tryz.func22 ?_;intro args t ht;unfold Rd at ht;simp only at ht;split at ht
 ·rename_i k i b;obtain ⟨h1,h2⟩:=bO ht;subst h2;rw [aW,aW] at h1;obtain ⟨⟨c1,c2⟩,c3⟩:=h1;obtain ⟨x,rfl,rfl,_,ex⟩:=qE c1;rw [ex] at c2 ⊢;have hx:=cY.mp c2;have hp:=aSO b TI;refine (bEa ..).trans ?_;refine aI bFz ?_;refine aI (aFq (d:=TI) c3 aLs) ?_;have ht:=aLr (p:=(AU b TI).1) hp hx aLs;unfold JK;generalize AU b TI=p at *;obtain ⟨p,f⟩:=p;cases f
  ·rfl
  dsimp only at *;rw [iD,aE,aB,aCT];show cond (decide (b=nE)) (some _) (cond (Nat.beq x 0) (some _) _)=_;cases decide (b=nE)
  ·cases Nat.beq x 0
   ·refine aI ht ?_;refine aI (aLq (Gt _)) ?_;rfl
   ·rfl
  ·rfl
 ·cases ht
theorem Ea {x:Nat} {b:List Int} (hx:x < i9) (hb:dP b=true):aCj [eN x,pG b]=some (Rc (JK x b)):=by
 show cond (NT (nb x) (nb x).length && Nat.blt (vB (nb x)) i9 && dP b) (some (Rc (JK (vB (nb x)) b))) none=_;rw [gN,oX (dC (dL (k:=64) hx) (by decide)),cY.mpr hx,hb]; rfl
theorem MD {l:List SV} {k:List Int} {i:Nat} {b:List Int} (h:L9 l=some (k,i,b)):l=prC k i b:=by
 unfold L9 at h;split at h
 ·rename_i r;split at h
  ·rename_i e;cases h;rw [K1 e]; rfl
  ·cases h
 ·cases h
theorem Rh {k:List Int} {i:Nat} {b:List Int} (h:Yx k i b=true):∃ x,k=nb x /\ i=(nb x).length /\ vB k=x /\ x < i9 /\ dP b=true:=by
 unfold Yx at h;rw [aW,aW] at h;obtain ⟨x,rfl,rfl,_,ex⟩:=qE h.1.1;exact ⟨x,rfl,rfl,ex,by rw [<-ex]; exact cY.mp h.1.2,h.2⟩
theorem aCp {k:List Int} {i:Nat} {b:List Int} (h:dP b=true):(prC k i b).length=33:=by
 unfold prC;rw [fY,eZ,(fW h).1]
abbrev rdC (x1:Nat) (b1:List Int) (x2:Nat) (b2:List Int) (x3:Nat) (b3:List Int):AV:=.c (.rdat (prC (nb x1) (nb x1).length b1++(prC (nb x2) (nb x2).length b2++prC (nb x3) (nb x3).length b3)) 3 33)
theorem aFs {args:List AV} {r:Str × Int} (h:MA args=some r):∃ x1 b1 x2 b2 x3 b3,args=[rdC x1 b1 x2 b2 x3 b3] /\ x1 < i9 /\ x2 < i9 /\ x3 < i9 /\ dP b1=true /\ dP b2=true /\ dP b3=true /\ r=pO [] [JK x1 b1,JK x2 b2,JK x3 b3]:=by
 unfold MA at h;split at h
 ·rename_i l;split at h
  ·rename_i q1 q2 q3;obtain ⟨hc,hr⟩:=bO h;rw [aW,aW] at hc;obtain ⟨x1,rfl,rfl,e1,h1,o1⟩:=Rh hc.1;obtain ⟨x2,rfl,rfl,e2,h2,o2⟩:=Rh hc.2.1;obtain ⟨x3,rfl,rfl,e3,h3,o3⟩:=Rh hc.2.2;refine ⟨x1,_,x2,_,x3,_,?_,h1,h2,h3,o1,o2,o3,?_⟩
   ·have a1:=MD q1;have a2:=MD q2;have a3:=MD q3;unfold rdC;rw [<-a1,<-a2,<-a3,show l.drop 66=(l.drop 33).drop 33 by rw [yS],DM,DM]
   ·rw [<-hr,e1,e2,e3]
  ·cases h
 ·cases h
theorem ME {x1 x2 x3:Nat} {b1 b2 b3:List Int} (h1:x1 < i9) (h2:x2 < i9) (h3:x3 < i9) (o1:dP b1=true) (o2:dP b2=true) (o3:dP b3=true) :
  aCm [rdC x1 b1 x2 b2 x3 b3]=some (pO [] [JK x1 b1,JK x2 b2,JK x3 b3]):=by
 have ok:∀ {x:Nat} {b:List Int},x < i9->dP b=true->Yx (nb x) (nb x).length b=true:=λ {x b} h o=>by
  unfold Yx;rw [gN,oX (dC (dL (k:=64) h) (by decide)),cY.mpr h,o]; rfl
 have pl:∀ (k:List Int) (i:Nat) (b:List Int),L9 (prC k i b)=some (k,i,b):=λ k i b=>by
  unfold prC L9;simp only [HZ]
 have l1:=aCp (k:=nb x1) (i:=(nb x1).length) o1;have l2:=aCp (k:=nb x2) (i:=(nb x2).length) o2;unfold rdC;show MA [.c (.rdat _ 3 33)]=_;unfold MA;have p1:=pl (nb x1) (nb x1).length b1;have p2:=pl (nb x2) (nb x2).length b2;have p3:=pl (nb x3) (nb x3).length b3;generalize prC (nb x1) (nb x1).length b1=A at *;generalize prC (nb x2) (nb x2).length b2=B at *;generalize prC (nb x3) (nb x3).length b3=C at *;have d1:(A++(B++C)).drop 33=B++C:=ID l1;have d2:(A++(B++C)).drop 66=C:=by
  have:(A++(B++C)).drop (33+33)=C:=by rw [<-yS,d1]; exact ID l2
  exact this
 simp only [DN l1,d1,d2,DN l2,p1,p2,p3,ok h1 o1,ok h2 o2,ok h3 o3,CY,aB,gN]
theorem st3 {r:List Int × Int} {X:Option AV} {s:Str} {l:List (List Int × Int)} (h:r.2=0->X=some (eSE (pO (s++r.1.map b8) l))) :
  cond (!decide ((Rc r).2=(0:Int))) (some (AV.tup [CV.s (SV.pl (Pl.str [])),CV.s (SV.pl (Pl.int i64 (Rc r).2))])) X=some (eSE (pO s (r :: l))):=by
 obtain ⟨a,e⟩:=r;show cond (!decide (e=0)) _ X=some (eSE (cond (decide (e=0)) (pO (s++a.map b8) l) ([],e)));by_cases c:e=0
 ·rw [aD c,iD,aE,h c]; rfl
 ·rw [aJ c]; rfl
theorem Ri {r:List Int × Int} (h:r.2=0):(Rc r).1=r.1.map b8:=by
 unfold Rc;rw [aD h]; rfl
abbrev bEg:Cg:=aXM (Str × Int) aCj (λ t=>t.fst) (λ t=>t.snd)
theorem aSY:CfOk prog bEg.c:=gk <| aA aFr <| aH
theorem aFt:CallOk prog 9 aCl:=by
 refine aZ (fu:=λ _=>5) aSY Tryz.func9 ?_;intro args r hr;obtain ⟨x1,l1,x2,l2,x3,l3,rfl,h1,h2,h3,o1,o2,o3,rfl⟩:=aFs hr;have j1:=Ea h1 o1;have j2:=Ea h2 o2;have j3:=Ea h3 o3;have k1:=MC x1 l1;have k2:=MC x2 l2;have k3:=MC x3 l3;obtain ⟨a0,a1,a2,a3,a4,a5,a6,a7,a8,a9,a10,a11,a12,a13,a14,a15,a16,a17,a18,a19,a20,a21,a22,a23,a24,a25,a26,a27,a28,a29,a30,a31,rfl⟩:=AG (fW o1).1;obtain ⟨b0,b1,b2,b3,b4,b5,b6,b7,b8,b9,b10,b11,b12,b13,b14,b15,b16,b17,b18,b19,b20,b21,b22,b23,b24,b25,b26,b27,b28,b29,b30,b31,rfl⟩:=AG (fW o2).1;obtain ⟨c0,c1,c2,c3,c4,c5,c6,c7,c8,c9,c10,c11,c12,c13,c14,c15,c16,c17,c18,c19,c20,c21,c22,c23,c24,c25,c26,c27,c28,c29,c30,c31,rfl⟩:=AG (fW o3).1;refine (bEb ..).trans ?_;generalize hR1:JK x1 _=r1 at *;generalize hR2:JK x2 _=r2 at *;generalize hR3:JK x3 _=r3 at *;refine aI j1 ?_;refine st3 λ z1=>?_;rw [Ri z1] at k1 ⊢;refine nC (aD (by omega)) ?_;refine aI j2 ?_;refine st3 λ z2=>?_;rw [Ri z2] at k2 ⊢;refine nC (aD (by rw [lF]; omega)) ?_;refine aI j3 ?_;refine st3 λ z3=>?_;rw [Ri z3] at k3 ⊢;refine nC (aD (by rw [lF,cD]; omega)) ?_;rfl
section
variable {q:Nat} [NeZero q]
theorem sg1 {a b r v y:Fin q} (h:v*(b*b)*(r*r)=1) (hy:y=a*(r*(r*b)*v)):y*y*(b*b)=a*a:=by
 have e:y*y*(b*b)=a*a*(v*(b*b)*(r*r))*(v*(b*b)*(r*r)):=by subst hy; clear h; grind (splits:=0) -lia -linarith
 rw [e,h];clear e h hy;grind (splits:=0) -lia -linarith
theorem sg2 {s b r v x:Fin q} (h:v*(b*b)*(r*r)=1) (hx:x*x=(s+s)*(r*b)*((s+s)*(r*b))):x*x*v=4*(s*s):=by
 have e:x*x*v=4*(s*s)*(v*(b*b)*(r*r)):=by rw [hx]; clear h hx; grind (splits:=0) -lia -linarith
 rw [e,h];clear e h hx;grind (splits:=0) -lia -linarith
theorem sg3 {d s v x y:Fin q} (hv:v=-(d*((1 - s*s)*(1 - s*s))) - (1+s*s)*(1+s*s)) (h1:y*y*((1+s*s)*(1+s*s))=(1 - s*s)*(1 - s*s)) (h2:x*x*v=4*(s*s)) :
  (y*y - x*x - (1+d*x*x*y*y))*(v*((1+s*s)*(1+s*s)))=0:=by
 have e:(y*y - x*x - (1+d*x*x*y*y))*(v*((1+s*s)*(1+s*s)))=y*y*((1+s*s)*(1+s*s))*v - x*x*v*((1+s*s)*(1+s*s)) - v*((1+s*s)*(1+s*s)) - d*(x*x*v)*(y*y*((1+s*s)*(1+s*s))):=by
  clear hv h1 h2; grind (splits:=0) -lia -linarith
 rw [e,h1,h2];clear e h1 h2;subst hv;grind (splits:=0) -lia -linarith
theorem sg4 {E w r:Fin q} (h:w*(r*r)=1) (h0:E*w=0):E=0:=by
 have e:E*w*(r*r)=E*(w*(r*r)):=by clear h h0; grind (splits:=0) -lia -linarith
 rw [h,h0,iX,lB] at e;exact e.symm
theorem sg5 {a b:Fin q} (h:a - b=0):a=b:=by grind (splits:=0) -lia -linarith
theorem sg6 {s:Fin q}:s+s=2*s:=by grind (splits:=0) -lia -linarith
end
theorem bEh {a:Fin QP}:oN a=0 ↔ a=0:=by
 constructor
 ·intro h;rcases rT a with e | e
  ·rw [<-e]; exact h
  ·rw [h] at e;have e2:-(-a)=a:=by grind (splits:=0) -lia -linarith
   rw [<-e2,<-e]; exact Cl
 ·rintro rfl; rfl
theorem bEi {s:Fin QP} (hb:(NR s).2=true):CP.On2 (Wu s,XR s):=by
 have R:=mS 1 (XQ s*((1+s*s)*(1+s*s)));have eR:wV 1 (XQ s*((1+s*s)*(1+s*s)))=NR s:=rfl;rw [eR] at R;have hr:=R.yes hb;have hy:=sg1 (y:=XR s) hr rfl;have hx:=sg2 (x:=Wu s) hr (da7 (rT _) rfl);exact sg5 (sg4 hr (sg3 rfl hy hx))
theorem bEj {s:Fin QP} (hb:(NR s).2=true):Wu s=0 ↔ s=0:=by
 have R:=mS 1 (XQ s*((1+s*s)*(1+s*s)));have eR:wV 1 (XQ s*((1+s*s)*(1+s*s)))=NR s:=rfl;rw [eR] at R;have hr:=R.yes hb;unfold Wu;rw [bEh];generalize (NR s).1=r at *;constructor
 ·intro h;rcases Classical.em (s=0) with h0 | h0
  ·exact h0
  ·exfalso;have r0:r ≠ 0:=λ e=>by
    rw [e,gV,gV] at hr;exact CP.h1 hr.symm
   have b0:1+s*s ≠ 0:=λ e=>by
    rw [e,gV,gV,lB] at hr;exact CP.h1 hr.symm
   rw [sg6] at h;exact CP.mul_ne (CP.mul_ne CP.h2 h0) (CP.mul_ne r0 b0) h
 ·rintro rfl;rw [sg6,gV,lB]
theorem aLt (s:Nat):fn (Yw s)=1 - fn s*fn s:=by
 unfold Yw;rw [bR,w6 (mP _),jK,bR,bI]
theorem Rj (s:Nat):fn (Nc s)=1+fn s*fn s:=by
 unfold Nc;rw [bR,fQ,jK,bR,bI]
theorem bHx:fn dN=CP.d:=rfl
theorem aLu (s:Nat):fn (rVR s dN)=XQ (fn s):=by
 unfold rVR XQ;rw [bR,w6 (mP _),bR,w6 (mP _),xH,bR,bI,bR,bI,aLt,bR,bI,Rj,mG,bHx]
theorem Y1 (s:Nat):fn (rIR s dN).1=(NR (fn s)).1 /\ (rIR s dN).2=(NR (fn s)).2:=by
 have h:=aGB (u:=1) (v:=rVR s dN*(Nc s*Nc s%aK)%aK) tM (mP _);rw [jK,bR,bI,bR,bI,aLu,Rj] at h;exact h
theorem aLv (s:Nat):fn (rXR s dN)=Wu (fn s):=by
 unfold rXR Wu;rw [Z2 (mP _),bR,bI,bR,fQ,bR,bI,(Y1 s).1,Rj]
theorem Y2 (s:Nat):fn (VU s dN)=XR (fn s):=by
 unfold VU XR;rw [bR,bI,bR,bI,bR,bI,bR,bI,aLt,(Y1 s).1,Rj,aLu];congr 1;generalize (NR (fn s)).1=r;generalize XQ (fn s)=v;generalize 1+fn s*fn s=b;exact (Fin.mul_assoc r (r*b) v).symm
theorem aLw (s d:Nat):VU s d < aK:=by
 unfold VU;exact mP _
theorem bEk (s d:Nat):rXR s d < aK:=by
 unfold rXR;exact J0 (mP _)
theorem aSZ {s:Nat} (hs:s < aK):Ow s dN=FW (fe s):=by
 have ho:=cA s;have es:ph (fe s)=fn s:=xW hs;have ey:VU s dN=fv (JR (fe s))%aK:=by
  have h:fn (VU s dN)=fn (fv (JR (fe s))):=by
   rw [Y2,<-es];exact (Ko ho).symm
  have h:=nT.1 h;rwa [aY (aLw s dN)] at h
 have e1:Nat.beq (s%2) 1=qS (fe s):=by rw [HD,es]; exact Z1 hs
 have e2:(rIR s dN).2=(XU (fe s)).2:=by rw [(Y1 s).2,(Kn ho).2,es]
 have e3:Nat.beq (rXR s dN*VU s dN%aK%2) 1=qS (XV (fe s)):=by
  rw [Pc,bI,aLv,Y2,HD,<-es];unfold XV;rw [bG,XZ ho,Ko ho]
 unfold Ow FW FK;rw [e1,e2,e3,ey]
theorem bEl {b:List Int} (hb:dP b=true):b=nE ↔ vB b=0:=by
 obtain ⟨hl,ho⟩:=fW hb;constructor
 ·rintro rfl; decide
 ·intro h;have e:=Ks b ho;rw [hl,h] at e;rw [<-e]; decide
theorem Y3 {k:Nat} {b:List Int} {r:Pt × Int} (hr:kJ b=r):gO k b=cond (decide (r.2=0)) (cond (Nat.beq k 0) (nE,9) (lo 32 (fv (cW (eY r.1 (cU k 253)))%aK),0)) (nE,r.2):=by
 subst hr; rfl
theorem aLx {k:Nat} {b:List Int} {p:RP × Bool} (hr:AU b TI=p):JK k b=cond p.2 (cond (decide (b=nE) || Nat.beq k 0) (nE,9) (VV p.1 k TI,0)) (nE,8):=by
 subst hr; rfl
theorem aLy {b:List Int} {p:Pt × Int} (hr:oS b=p):kJ b=cond (decide (p.2=0) && pL p.1 dM) (p.1,9) p:=by
 subst hr; rfl
theorem bJN {k:Nat} {b:List Int} {M:RP} {N:Pt} (h1:AU b TI=(M,false)) (h2:oS b=(N,8)):JK k b=gO k b:=by
 have hr:=aLy h2;dsimp only at hr;rw [aJ (by decide:¬ (8:Int)=0),tY,aE] at hr;rw [aLx h1,Y3 hr];dsimp only;rw [aJ (by decide:¬ (8:Int)=0),aE,aE]
theorem bJO {k:Nat} {b:List Int} {P:Pt} {R:RP} (h1:AU b TI=(R,true)) (h2:oS b=(P,0)) (h3:pL P dM=decide (b=nE)) (h4:lo 32 (fv (cW (eY P (cU k 253)))%aK)=VV R k TI):JK k b=gO k b:=by
 have hr:=aLy h2;dsimp only at hr;rw [aD (rfl:(0:Int)=0),mO,h3] at hr;rw [aLx h1];dsimp only;cases hd:decide (b=nE)
 ·rw [hd,aE] at hr;rw [Y3 hr];dsimp only;rw [aD (rfl:(0:Int)=0),aB,aB,Ep,h4]
 ·rw [hd,aB] at hr;rw [Y3 hr];dsimp only;rw [aJ (by decide:¬ (9:Int)=0),aE,aB,IA,aB]
theorem aLz {s:Nat} (hs:s < aK):Ow s TI=FW (fe s):=aSZ hs
theorem bHy {s:Nat} (hs:s < aK) (hg:FW (fe s)=true) (b:List Int) (hz:b=nE ↔ s=0) {k:Nat} (hk:k < LN) :
  pL (ptP (fe s)) dM=decide (b=nE) /\ lo 32 (fv (cW (eY (ptP (fe s)) (cU k 253)))%aK)=VV ⟨rXR s TI,VU s TI,1⟩ k TI:=by
 have ho:=cA s;have es:ph (fe s)=fn s:=xW hs;have hi:(NR (fn s)).2=true /\ XR (fn s) ≠ 0:=by
  unfold FW at hg;rw [aW,aW,aW,Zr,Zr,Zr,(Kn ho).2,es] at hg;refine ⟨hg.2.1,λ e=>?_⟩;have h0:ph (JR (fe s))=0:=by rw [Ko ho,es]; exact e
  have h1:fv (JR (fe s))%aK=0:=jA.1 h0;have h2:=hg.2.2.2;unfold FK at h2;rw [h1] at h2;cases h2
 clear hg;have on:=bEi hi.1;have px:ph (pXF (fe s))=Wu (fn s):=by rw [XZ ho,es]
 have py:ph (JR (fe s))=XR (fn s):=by rw [Ko ho,es]
 have P:PT (ptP (fe s)) ⟨(Wu (fn s),XR (fn s)),on⟩:=by
  have h:=MZ (Kl ho) (Km ho) (by rw [px,py]; exact on);have e1:(⟨(ph (pXF (fe s)),ph (JR (fe s))),by rw [px,py]; exact on⟩:CP.G)=⟨(Wu (fn s),XR (fn s)),on⟩:=oJ (by show (ph (pXF (fe s)),ph (JR (fe s)))=_; rw [px,py]);rw [e1] at h;exact h
 have R:RPT ⟨rXR s dN,VU s dN,1⟩ ⟨(Wu (fn s),XR (fn s)),on⟩:=by
  have ex:=aLv s;have ey:=Y2 s;have lx:=bEk s dN;have ly:=aLw s dN;generalize rXR s dN=X at *;generalize VU s dN=Y at *;refine ⟨⟨lx,ly,tM⟩,?_,?_,?_⟩
  ·show fn 1 ≠ 0;rw [jK]; exact CP.h1
  ·show fn X=Wu (fn s)*fn 1;rw [jK,iX,ex]
  ·show fn Y=XR (fn s)*fn 1;rw [jK,iX,ey]
 constructor
 ·rw [M7,decide_eq_true_iff,Ff P,hz];show Wu (fn s)=0 ∨ XR (fn s)=0 ↔ _;rw [bEj hi.1,jA,aY hs];exact ⟨λ h=>h.resolve_right hi.2,.inl⟩
 ·exact Wz (Xz P hk) (aD0 R k)
theorem Rk {k:Nat} {b:List Int} (hb:dP b=true) (hk:k < LN):JK k b=gO k b:=by
 have hz:=bEl hb;cases hc:(Nat.blt (vB b) aK && FW (fe (vB b)))
 ·refine bJN (M:=tA) (N:=dM) ?_ ?_
  ·unfold AU;cases hlt:Nat.blt (vB b) aK
   ·rw [tY,aE]
   ·rw [hlt] at hc;rw [aLz (cY.mp hlt),hc,aE]
  ·unfold oS;rw [hc,aE]
 ·have hc2:=hc;rw [aW] at hc2;have hs:=cY.mp hc2.1;obtain ⟨q1,q2⟩:=bHy hs hc2.2 b hz hk;refine bJO ?_ ?_ q1 q2
  ·unfold AU;rw [aLz hs,hc,aB]
  ·unfold oS;rw [hc,aB]
set_option maxRecDepth 8000
def bHz:Summ where
 T:=Unit
 run:=λ
  | [.c (.s (.pl (.agg (.ints .u8 a) 32))),.c (.s (.pl (.agg (.ints .u8 b) 32))),.c (.s (.pl (.agg (.ints .u8 c) 32))),.c (.s (.pl (.agg (.ints .u8 d) 32)))]=>cond (dP a && (dP b && (dP c && dP d))) (some ()) none
  | _=>none
 enc:=λ _=>.bool true
theorem aFu {x:Nat} (h:x < LN):x < i9:=cZ h (by decide)
abbrev bEm:Cg:=aXN (PUnit) gM (Nat) aA7 (λ t=>(cM 8 t).getD 0 0) (λ t=>(cM 8 t).getD 1 0) (λ t=>(cM 8 t).getD 2 0) (λ t=>(cM 8 t).getD 3 0) (λ t=>(cM 8 t).getD 4 0) (λ t=>(cM 8 t).getD 5 0) (λ t=>(cM 8 t).getD 6 0) (λ t=>(cM 8 t).getD 7 0) (Nat) aNm (λ t=>nb t) (λ t=>(nb t).length) (Nat) Za (λ t=>nb t) (λ t=>(nb t).length) (Str × Int) QM (λ t=>t.fst) (λ t=>t.snd) (Str × Int) aCm (λ t=>t.fst) (λ t=>t.snd) (Str × Int) aA2 (λ t=>t.fst) (λ t=>t.snd)
theorem aS0:CfOk prog bEm.c:=gk <| aA Xu <| aA aFP <| aA aU8 <| aA aNp <| aA OC <| aA aFt <| aA aEp <| aH
theorem bEn:CallOk prog yZ bHz:=by
 refine fO aS0 y4 ?_;intro args r hr;unfold bHz at hr;simp only at hr;split at hr
 ·rename_i a b s t;obtain ⟨hc,_⟩:=bO hr;simp only [aW] at hc;obtain ⟨ha,hb,hs,ht⟩:=hc;have sa:=Mh ha;have sb:=Mh hb;have oa:=WP ha;have ob:=WP hb;have bd:∀ {a:List Int},dP a=true->vB a < i9:=λ {a} h=>by
   have h2:=IR a (fW h).2;rw [(fW h).1] at h2;exact cZ h2 (by decide +kernel)
  have ma:=PP (bd ha);have mb:=PP (bd hb);have c1:vB a%LN < LN:=bH _ aEg;have c2:vB b%LN < LN:=bH _ aEg;clear bd;generalize vB a%LN=x at *;generalize vB b%LN=y at *;generalize vB a=va at *;generalize vB b=vb at *;have v:∀ n,n < LN->val (cM 8 n)=n:=λ n hn=>zB (cZ hn wB);have k1:=K3 (cL x) (cL y) hs ht;have k2:=Xs (cL x) (cL y) hs ht;have l1:=ME (aFu c1) (aFu c1) (aFu c2) hs ht hs;have l2:=ME (aFu c1) (aFu c2) (aFu c1) hs hs ht;have u:∀ e s f t' o w,pP e s f t' o w=pO [] [gO (val e) s,gO (val f) t',gO (val o) w]:=λ _ _ _ _ _ _=>rfl;rw [u,v x c1,v y c2] at k1 k2;rw [Rk hs c1,Rk ht c1,Rk hs c2] at l1 l2;clear u v;generalize pO [] [gO x s,gO x t,gO y s]=A at *;generalize pO [] [gO x s,gO y s,gO x t]=B at *;obtain ⟨s0,s1,s2,s3,s4,s5,s6,s7,s8,s9,s10,s11,s12,s13,s14,s15,s16,s17,s18,s19,s20,s21,s22,s23,s24,s25,s26,s27,s28,s29,s30,s31,rfl⟩:=AG (fW hs).1;obtain ⟨t0,t1,t2,t3,t4,t5,t6,t7,t8,t9,t10,t11,t12,t13,t14,t15,t16,t17,t18,t19,t20,t21,t22,t23,t24,t25,t26,t27,t28,t29,t30,t31,rfl⟩:=AG (fW ht).1;refine (bEc ..).trans ?_;show _=some (AV.bool true);refine aI (show gM []=some () from rfl) ?_;refine aI sa ?_;refine aI sb ?_;refine aI oa ?_;refine aI ma ?_;refine aI ob ?_;refine aI mb ?_;refine aI k1 ?_;refine aI l1 ?_;refine aI k2 ?_;refine aI l2 ?_;show some (AV.bool (decide (A.1=A.1) && decide (A.2=A.2) && decide (B.1=B.1) && decide (B.2=B.2)))=_;rw [aD rfl,aD rfl,aD rfl,aD rfl]; rfl
 ·cases hr
end
end Go.Eng
