import Derived.Test.YtmicbaijcbkmjaaGreatZO3
namespace Go.Eng
open Go.IntKind (u64 i64 u8)
noncomputable section
open Go Go.Proofs
set_option linter.all false
def Uh (s:Nat):Nat:=(1+aJ - s*s%aJ)%aJ
def KU (s:Nat):Nat:=(1+s*s%aJ)%aJ
def rVR (s d:Nat):Nat:=((0+aJ - d*(Uh s*Uh s%aJ)%aJ)%aJ+aJ - KU s*KU s%aJ)%aJ
def Xg (s d:Nat):Nat × Bool:=Bh 1 (rVR s d*(KU s*KU s%aJ)%aJ)
def Xh (s d:Nat):Nat:=oY ((s+s)%aJ*((Xg s d).1*KU s%aJ)%aJ)
def RV (s d:Nat):Nat:=Uh s*((Xg s d).1*((Xg s d).1*KU s%aJ*rVR s d%aJ)%aJ)%aJ
def Lg (s d:Nat):Bool:=!Nat.beq (s%2) 1 && ((Xg s d).2 && (!Nat.beq (Xh s d*RV s d%aJ%2) 1 && !Nat.beq (RV s d) 0))
def zF (a:List Int) (d:Nat):RP × Bool:=cond (Nat.blt (vB a) aJ && Lg (vB a) d) (⟨Xh (vB a) d,RV (vB a) d,1⟩,true) (pZ,false)
def JZ:Summ where
 T:=RP × Bool
 run:=VS zF
 enc:=λ t=>.tup [.mix [.dat (.ints .i64 (nb t.1.x)) (nb t.1.x).length 1,.dat (.ints .i64 (nb t.1.y)) (nb t.1.y).length 1,.dat (.ints .i64 (nb t.1.z)) (nb t.1.z).length 1],.s (.pl (.bool t.2))]
def aGg:FA (RP × Bool):=JZ.run
def aPs:Summ:={ T:=Str,run:=wK λ a=>a.map b8,enc:=λ t=>.str t }
def Xi:FA Str:=aPs.run
def RW (p:RP) (k d:Nat):List Int:=lo 32 (kC (Bf (xJ p k d)).1 (Bf (xJ p k d)).2)
def aPt:Summ:={ T:=List Int,run:=IK RW λ n=>Nat.blt n lJ,enc:=lS }
def aPu:FA (List Int):=aPt.run
abbrev RX:Nat:=37095705934669439343138083508754565189542113879843219016388785533085940283555
def evR (k:Nat) (b:List Int):List Int × Int :=
 cond (zF b RX).2 (cond (decide (b=nM) || Nat.beq k 0) (nM,9) (RW (zF b RX).1 k RX,0)) (nM,8)
def aAr (t:List Int × Int):Str × Int:=(cond (decide (t.2=0)) (t.1.map b8) [],t.2)
def OW:Summ where
 T:=Str × Int
 run:=λ
  | [.c (.s (.dat (.ints .i64 k) i 1)),.c (.s (.pl (.agg (.ints .u8 b) 32)))]=>cond (K3 k i && Nat.blt (vB k) lJ && fR b) (some (aAr (evR (vB k) b))) none
  | _=>none
 enc:=eSE
def Xj:FA (Str × Int):=OW.run
section
variable (T0:Type) (R0:FA T0) (aG:T0->List Int) (aM:T0->Nat) (T1:Type) (R1:FA T1) (aN:T1->List Int) (bI:T1->Nat) (T2:Type) (R2:FA T2) (bC:T2->Int) (T3:Type) (R3:FA T3) (bO:T3->Bool) (T4:Type) (R4:FA T4) (eV:T4->List Int) (jS:T4->Nat) (zI:T4->List Int) (Bb:T4->Nat) (Be:T4->List Int) (f4f:T4->Nat) (T5:Type) (R5:FA T5) (fW:T5->List Int) (iU:T5->Nat) (T6:Type) (R6:FA T6) (oH:T6->List Int) (oI:T6->Nat) (T7:Type) (R7:FA T7) (xA:T7->List Int) (Eh:T7->Nat) (T8:Type) (R8:FA T8) (vL:T8->List Int) (wY:T8->Nat) (Bt:T8->Bool) (T9:Type) (R9:FA T9) (zE:T9->List Int) (Cy:T9->Nat)
def RY:Cg:=⟨⟨dE [(28,⟨R0,λ t=>AV.s (dI (aG t) (aM t))⟩),(45,⟨R1,λ t=>AV.s (dI (aN t) (bI t))⟩),(44,⟨R2,λ t=>AV.int .i64 (bC t)⟩),(46,⟨R3,λ t=>AV.bool (bO t)⟩),(47,⟨R4,λ t=>AV.c (.mix [dI (eV t) (jS t),dI (zI t) (Bb t),dI (Be t) (f4f t)])⟩),(40,⟨R5,λ t=>AV.s (dI (fW t) (iU t))⟩),(41,⟨R6,λ t=>AV.s (dI (oH t) (oI t))⟩),(48,⟨R7,λ t=>AV.s (dI (xA t) (Eh t))⟩),(49,⟨R8,λ t=>AV.tup [.s (dI (vL t) (wY t)),.s (.pl (.bool (Bt t)))]⟩),(50,⟨R9,λ t=>AV.s (dI (zE t) (Cy t))⟩)],[],dR⟩,[(4,[1,2,4,6,7],[1,4,6])]⟩
def OX (x1:List Int) (n1 n6:Nat) (v7:Int) (aQ:List Int) (iM:Nat) (cT:List Int):St:={ tm:=[(1,.s (dI x1 n1)),(2,.s (.ptr 0 0 32)),(4,.s (.ptr 1 0 3)),(6,.s (.own 2 n6 1)),(7,.int .i64 v7)],hp:=[(0,{ ty:=23,n:=32,row:=Row.t (.ints .u8 aQ) }),(1,{ ty:=63,n:=3,row:=Row.mix [.pl (.raw (Value.slice none 0 0)),.pl (.raw (Value.slice none 0 0)),.pl (.raw (Value.slice none 0 0))] }),(2,{ ty:=5,n:=iM,row:=Row.t (.ints .u8 cT) })],nx:=3,sz:=108 }
def Ui:Code:=cM (bN [1,1,0,1,2] (bD Tryz.f24))
def OY (fu:Nat):=lP prog (RY T0 R0 aG aM T1 R1 aN bI T2 R2 bC T3 R3 bO T4 R4 eV jS zI Bb Be f4f T5 R5 fW iU T6 R6 oH oI T7 R7 xA Eh T8 R8 vL wY Bt T9 R9 zE Cy) fu [1,1,0,1,2] (bD Tryz.f24) (fT prog Tryz.f24)
abbrev aVw (fu:Nat) (x1:List Int) (n1 n6:Nat) (v7:Int) (aQ:List Int) (iM:Nat) (cT:List Int):=eS prog (RY T0 R0 aG aM T1 R1 aN bI T2 R2 bC T3 R3 bO T4 R4 eV jS zI Bb Be f4f T5 R5 fW iU T6 R6 oH oI T7 R7 xA Eh T8 R8 vL wY Bt T9 R9 zE Cy) fu Ui (OY T0 R0 aG aM T1 R1 aN bI T2 R2 bC T3 R3 bO T4 R4 eV jS zI Bb Be f4f T5 R5 fW iU T6 R6 oH oI T7 R7 xA Eh T8 R8 vL wY Bt T9 R9 zE Cy fu ) fu (some (OX x1 n1 n6 v7 aQ iM cT))
theorem aVx (fu:Nat) (a:List Int) (d:Nat):bB prog Tryz.f24 (RY T0 R0 aG aM T1 R1 aN bI T2 R2 bC T3 R3 bO T4 R4 eV jS zI Bb Be f4f T5 R5 fW iU T6 R6 oH oI T7 R7 xA Eh T8 R8 vL wY Bt T9 R9 zE Cy) fu [.agg (.ints .u8 a) 32,eN d]=aVw T0 R0 aG aM T1 R1 aN bI T2 R2 bC T3 R3 bO T4 R4 eV jS zI Bb Be f4f T5 R5 fW iU T6 R6 oH oI T7 R7 xA Eh T8 R8 vL wY Bt T9 R9 zE Cy fu (nb d) (nb d).length 32 0 a 32 (List.replicate 32 0):=by kernel_rfl
def Ja (x1:List Int) (n1 n6 dP:Nat) (bA:List Int):St:={ tm:=[(1,.s (dI x1 n1)),(4,.s (.ptr 0 0 3)),(6,.s (.own 1 n6 1))],hp:=[(0,{ ty:=63,n:=3,row:=Row.mix [.pl (.raw (Value.slice none 0 0)),.pl (.raw (Value.slice none 0 0)),.pl (.raw (Value.slice none 0 0))] }),(1,{ ty:=5,n:=dP,row:=Row.t (.ints .u8 bA) })],nx:=2,sz:=108 }
theorem aGh {β:Type} (fu:Nat) (G:FG β) (H:FH β) (x1:List Int) (n1 n6:Nat) (v7:Int) (aQ:List Int) (iM:Nat) (cT:List Int):fI prog (RY T0 R0 aG aM T1 R1 aN bI T2 R2 bC T3 R3 bO T4 R4 eV jS zI Bb Be f4f T5 R5 fW iU T6 R6 oH oI T7 R7 xA Eh T8 R8 vL wY Bt T9 R9 zE Cy) fu Ui G H (OX x1 n1 n6 v7 aQ iM cT)=bif decide (v7 < 32) then bif decide (0 <= v7 /\ v7 < 32) then bif decide (0 <= v7 /\ v7 < (n6:Int)) then G (some (OX x1 n1 n6 (i64.wrap (v7+1)) aQ iM (cT.set v7.toNat (aQ.getD (0+v7.toNat) 0)))) else none else none else H (Ex.exit 0) (some (Ja x1 n1 n6 iM cT)):=by kernel_rfl
theorem aGi (fu:Nat) (x1:List Int) (n1 n6 dP:Nat) (bA:List Int):OY T0 R0 aG aM T1 R1 aN bI T2 R2 bC T3 R3 bO T4 R4 eV jS zI Bb Be f4f T5 R5 fW iU T6 R6 oH oI T7 R7 xA Eh T8 R8 vL wY Bt T9 R9 zE Cy fu  (Ex.exit 0) (Ja x1 n1 n6 dP bA)=(R0 [.str (List.map b8 bA)]).bind λ t=>(R1 []).bind λ dH=>(R2 [.s (dI (aG t) (aM t)),.s (dI (aN dH) (bI dH))]).bind λ eU=>bif decide (0 <= bC eU) then (R4 []).bind λ t=>some (AV.tup [.mix [dI (eV t) (jS t),dI (zI t) (Bb t),dI (Be t) (f4f t)],.s (.pl (.bool false))]) else (R3 [.s (dI (aG t) (aM t))]).bind λ gE=>bif bO gE then (R4 []).bind λ t=>some (AV.tup [.mix [dI (eV t) (jS t),dI (zI t) (Bb t),dI (Be t) (f4f t)],.s (.pl (.bool false))]) else (R5 [.s (dI (aG t) (aM t)),.s (dI (aG t) (aM t))]).bind λ gT=>(R6 [.s (dI [1] 1),.s (dI (fW gT) (iU gT))]).bind λ gJ=>(R7 [.s (dI [1] 1),.s (dI (fW gT) (iU gT))]).bind λ kA=>(R5 [.s (dI (xA kA) (Eh kA)),.s (dI (xA kA) (Eh kA))]).bind λ vI=>(R5 [.s (dI (oH gJ) (oI gJ)),.s (dI (oH gJ) (oI gJ))]).bind λ tP=>(R5 [.s (dI x1 n1),.s (dI (fW tP) (iU tP))]).bind λ tQ=>(R6 [.s (dI [] 0),.s (dI (fW tQ) (iU tQ))]).bind λ gX=>(R6 [.s (dI (oH gX) (oI gX)),.s (dI (fW vI) (iU vI))]).bind λ gM=>(R5 [.s (dI (oH gM) (oI gM)),.s (dI (fW vI) (iU vI))]).bind λ iV=>(R8 [.s (dI [1] 1),.s (dI (fW iV) (iU iV))]).bind λ fO=>(R5 [.s (dI (vL fO) (wY fO)),.s (dI (xA kA) (Eh kA))]).bind λ gO=>(R5 [.s (dI (fW gO) (iU gO)),.s (dI (oH gM) (oI gM))]).bind λ qE=>(R5 [.s (dI (vL fO) (wY fO)),.s (dI (fW qE) (iU qE))]).bind λ mS=>(R7 [.s (dI (aG t) (aM t)),.s (dI (aG t) (aM t))]).bind λ t=>(R5 [.s (dI (xA t) (Eh t)),.s (dI (fW gO) (iU gO))]).bind λ t=>(R9 [.s (dI (fW t) (iU t))]).bind λ t=>(R5 [.s (dI (oH gJ) (oI gJ)),.s (dI (fW mS) (iU mS))]).bind λ gA=>bif !Bt fO then (R4 []).bind λ t=>some (AV.tup [.mix [dI (eV t) (jS t),dI (zI t) (Bb t),dI (Be t) (f4f t)],.s (.pl (.bool false))]) else (R5 [.s (dI (zE t) (Cy t)),.s (dI (fW gA) (iU gA))]).bind λ gY=>(R3 [.s (dI (fW gY) (iU gY))]).bind λ oG=>bif bO oG then (R4 []).bind λ t=>some (AV.tup [.mix [dI (eV t) (jS t),dI (zI t) (Bb t),dI (Be t) (f4f t)],.s (.pl (.bool false))]) else bif decide ((↑(iU gA):Int)=0) then (R4 []).bind λ t=>some (AV.tup [.mix [dI (eV t) (jS t),dI (zI t) (Bb t),dI (Be t) (f4f t)],.s (.pl (.bool false))]) else some (AV.tup [.mix [dI (zE t) (Cy t),dI (fW gA) (iU gA),dI [1] 1],.s (.pl (.bool true))]):=by kernel_rfl
end
def RZ:Cg:=⟨⟨dE [],[],dR⟩,[(4,[1,3,4],[3])]⟩
def OZ (n3:Nat) (v4:Int) (aQ:List Int) (dP:Nat) (bA:List Int):St:={ tm:=[(1,.s (.ptr 0 0 32)),(3,.s (.own 1 n3 1)),(4,.int .i64 v4)],hp:=[(0,{ ty:=23,n:=32,row:=Row.t (.ints .u8 aQ) }),(1,{ ty:=5,n:=dP,row:=Row.t (.ints .u8 bA) })],nx:=2,sz:=18 }
def Uj:Code:=cM (bN [1,1,0,1,2] (bD Tryz.f11))
def Uk (fu:Nat):=lP prog RZ fu [1,1,0,1,2] (bD Tryz.f11) (fT prog Tryz.f11)
abbrev aVy (fu:Nat) (n3:Nat) (v4:Int) (aQ:List Int) (dP:Nat) (bA:List Int):=eS prog RZ fu Uj (Uk fu ) fu (some (OZ n3 v4 aQ dP bA))
theorem aVz (fu:Nat) (a:List Int):bB prog Tryz.f11 RZ fu [.agg (.ints .u8 a) 32]=aVy fu 32 0 a 32 (List.replicate 32 0):=by kernel_rfl
def Ra (n3 gB:Nat) (aQ:List Int):St:={ tm:=[(3,.s (.own 0 n3 1))],hp:=[(0,{ ty:=5,n:=gB,row:=Row.t (.ints .u8 aQ) })],nx:=1,sz:=18 }
theorem aGj {β:Type} (fu:Nat) (G:FG β) (H:FH β) (n3:Nat) (v4:Int) (aQ:List Int) (dP:Nat) (bA:List Int):fI prog RZ fu Uj G H (OZ n3 v4 aQ dP bA)=bif decide (v4 < 32) then bif decide (0 <= v4 /\ v4 < 32) then bif decide (0 <= v4 /\ v4 < (n3:Int)) then G (some (OZ n3 (i64.wrap (v4+1)) aQ dP (bA.set v4.toNat (aQ.getD (0+v4.toNat) 0)))) else none else none else H (Ex.exit 0) (some (Ra n3 dP bA)):=by kernel_rfl
theorem aGk (fu:Nat) (n3 gB:Nat) (aQ:List Int):Uk fu  (Ex.exit 0) (Ra n3 gB aQ)=some (AV.str (List.map b8 aQ)):=by kernel_rfl
section
variable (T0:Type) (R0:FA T0) (aG:T0->List Int) (aM:T0->Nat) (cB:T0->List Int) (cE:T0->Nat) (cR:T0->List Int) (Sj:T0->Nat) (T1:Type) (R1:FA T1) (aN:T1->List Int)
def aPw:Cg:=⟨⟨dE [(52,⟨R0,λ t=>AV.c (.mix [dI (aG t) (aM t),dI (cB t) (cE t),dI (cR t) (Sj t)])⟩),(51,⟨R1,λ t=>AV.agg (.ints .u8 (aN t)) 32⟩)],[],dR⟩,[]⟩
theorem aVA (fu:Nat) (p:RP) (k d:Nat):bB prog Tryz.f25 (aPw T0 R0 aG aM cB cE cR Sj T1 R1 aN) fu [Ei p,eN k,eN d]=(R0 [.c (.mix [dI (nb p.x) (nb p.x).length,dI (nb p.y) (nb p.y).length,dI (nb p.z) (nb p.z).length]),.s (dI (nb k) (nb k).length),.s (dI (nb d) (nb d).length)]).bind λ t=>(R1 [.c (.mix [dI (aG t) (aM t),dI (cB t) (cE t),dI (cR t) (Sj t)])]).bind λ t=>some (AV.agg (.ints .u8 (aN t)) 32):=by kernel_rfl
end
section
variable (T0:Type) (R0:FA T0) (aG:T0->List Int) (aM:T0->Nat) (T1:Type) (R1:FA T1) (aN:T1->List Int) (bI:T1->Nat) (gV:T1->List Int) (gW:T1->Nat) (iL:T1->List Int) (f1f:T1->Nat) (f1g:T1->Bool) (T2:Type) (R2:FA T2) (bC:T2->List Int) (T3:Type) (R3:FA T3) (bO:T3->List UInt8)
def aPx:Cg:=⟨⟨dE [(23,⟨R0,λ t=>AV.s (dI (aG t) (aM t))⟩),(24,⟨R1,λ t=>AV.tup [.mix [dI (aN t) (bI t),dI (gV t) (gW t),dI (iL t) (f1f t)],.s (.pl (.bool (f1g t)))]⟩),(25,⟨R2,λ t=>AV.agg (.ints .u8 (bC t)) 32⟩),(11,⟨R3,λ t=>AV.str (bO t)⟩)],[],dR⟩,[]⟩
theorem aVB (fu:Nat) (k:Nat) (b:List Int):bB prog Tryz.f7 (aPx T0 R0 aG aM T1 R1 aN bI gV gW iL f1f f1g T2 R2 bC T3 R3 bO) fu [eN k,.agg (.ints .u8 b) 32]=(R0 []).bind λ t=>(R1 [.agg (.ints .u8 b) 32,.s (dI (aG t) (aM t))]).bind λ dH=>bif !f1g dH then some (AV.tup [.s (.pl (.str [])),.s (.pl (.int .i64 8))]) else bif decide (b=[0,0,0,0,0,0,0,0,0,0,0,0,0,0,0,0,0,0,0,0,0,0,0,0,0,0,0,0,0,0,0,0]) then some (AV.tup [.s (.pl (.str [])),.s (.pl (.int .i64 9))]) else bif decide ((↑(nb k).length:Int)=0) then some (AV.tup [.s (.pl (.str [])),.s (.pl (.int .i64 9))]) else (R2 [.c (.mix [dI (aN dH) (bI dH),dI (gV dH) (gW dH),dI (iL dH) (f1f dH)]),.s (dI (nb k) (nb k).length),.s (dI (aG t) (aM t))]).bind λ t=>(R3 [.agg (.ints .u8 (bC t)) 32]).bind λ t=>some (AV.tup [.s (.pl (.str (bO t))),.s (.pl (.int .i64 0))]):=by kernel_rfl
end
set_option maxRecDepth 8000
theorem Xk (s d:Nat):Xh s d < aJ:=by
 unfold Xh;exact Gy (mP _)
theorem Xl (s d:Nat):RV s d < aJ:=by
 unfold RV;exact mP _
theorem aMk (a:List Int) (d:Nat):(zF a d).1.ok:=by
 unfold zF;cases (Nat.blt (vB a) aJ && Lg (vB a) d)
 ·exact DK
 ·exact ⟨Xk _ _,Xl _ _,qZ⟩
abbrev aGl:Cg:=RY (Nat) z7 (λ t=>nb t) (λ t=>(nb t).length) (Nat) rRP (λ t=>nb t) (λ t=>(nb t).length) (Int) nE (λ t=>t) (Bool) GL (λ t=>t) (RP) zV (λ t=>nb t.x) (λ t=>(nb t.x).length) (λ t=>nb t.y) (λ t=>(nb t.y).length) (λ t=>nb t.z) (λ t=>(nb t.z).length) (Nat) oR (λ t=>nb t) (λ t=>(nb t).length) (Nat) y7 (λ t=>nb t) (λ t=>(nb t).length) (Nat) GK (λ t=>nb t) (λ t=>(nb t).length) (Nat × Bool) JD (λ t=>nb t.fst) (λ t=>(nb t.fst).length) (λ t=>t.2) (Nat) Dp (λ t=>nb t) (λ t=>(nb t).length)
theorem aMl:CfOk prog aGl.c:=gk <| aA Rv <| aA LJ <| aA BL <| aA NW <| aA QF <| aA uC <| aA Da <| aA NV <| aA YX <| aA HJ <| aK
theorem Aa {x:Option AV} (h:x=some (JZ.enc (pZ,false))):(zV []).bind (λ t=>some (AV.tup [CV.mix [SV.dat (TRow.ints i64 (nb t.x)) (nb t.x).length 1,SV.dat (TRow.ints i64 (nb t.y)) (nb t.y).length 1,SV.dat (TRow.ints i64 (nb t.z)) (nb t.z).length 1],CV.s (SV.pl (Pl.bool false))]))=x:=by
 rw [h]; rfl
theorem aVC (a:List Int) (d:Nat) (ha:fR a=true) (hd:d < aJ) (m fu:Nat) :
  OY _ z7 (λ t=>nb t) (λ t=>(nb t).length) _ rRP (λ t=>nb t) (λ t=>(nb t).length) _ nE (λ t=>t) _ GL (λ t=>t) _ zV (λ t=>nb t.x) (λ t=>(nb t.x).length) (λ t=>nb t.y) (λ t=>(nb t.y).length) (λ t=>nb t.z) (λ t=>(nb t.z).length) _ oR (λ t=>nb t) (λ t=>(nb t).length) _ y7 (λ t=>nb t) (λ t=>(nb t).length) _ GK (λ t=>nb t) (λ t=>(nb t).length) _ JD (λ t=>nb t.fst) (λ t=>(nb t.fst).length) (λ t=>t.2) _ Dp (λ t=>nb t) (λ t=>(nb t).length) fu (Ex.exit 0) (Ja (nb d) (nb d).length 32 m a)=some (JZ.enc (zF a d)):=by
 obtain ⟨hl,hb⟩:=j3 ha;have h0:z7 [.str (a.map b8)]=some (vB a):=by rw [Ln (by rw [iA]; omega),YM hb]
 have hv:=GD a hb;rw [hl] at hv;have hvM:(nb (vB a)).length <= 1048576:=cK (xN (k:=32) hv) (by decide);have hP:(nb aJ).length <= 1048576:=by rw [Tl]; decide
 have h2:=mM (x:=vB a) (y:=aJ) hvM hP;refine (aGi ..).trans ?_;refine aI h0 ?_;refine aI E6 ?_;refine aI h2 ?_;rw [Az];unfold zF;cases hlt:Nat.blt (vB a) aJ
 ·have hge:¬ vB a < aJ:=λ h=>by rw [dL.mpr h] at hlt; cases hlt
  rw [aE (by omega),aB,pC,aD];exact Aa rfl
 have hs:=dL.mp hlt;rw [aH (by omega),aD,jX];clear h0 h2 hlt hvM;generalize vB a=s at *;unfold Lg;refine aI (AC (nbL hs)) ?_;cases Nat.beq (s%2) 1;rotate_left
 ·exact Aa rfl
 rw [aD,lL,jX];have u1:Uh s < aJ:=mP _;have u2:KU s < aJ:=mP _;have hV:rVR s d < aJ:=by unfold rVR; exact mP _
 have e1:y7 [eN 1,eN (s*s%aJ)]=some (Uh s):=nJ qZ (mP _);have e2:GK [eN 1,eN (s*s%aJ)]=some (KU s):=wE qZ (mP _);have e5:=bJ hd (mP (Uh s*Uh s));have e6:=nJ Xs (mP (d*(Uh s*Uh s%aJ)));have e7:y7 [eN ((0+aJ - d*(Uh s*Uh s%aJ)%aJ)%aJ),eN (KU s*KU s%aJ)]=some (rVR s d):=nJ (mP _) (mP _);have e8:=bJ hV (mP (KU s*KU s));have e9:JD [eN 1,eN (rVR s d*(KU s*KU s%aJ)%aJ)]=some (Xg s d):=SY qZ (mP _);have hI:(Xg s d).1 < aJ:=by unfold Xg; exact Q6 qZ (mP _)
 have dX:Xh s d=oY ((s+s)%aJ*((Xg s d).1*KU s%aJ)%aJ):=rfl;have dY:RV s d=Uh s*((Xg s d).1*((Xg s d).1*KU s%aJ*rVR s d%aJ)%aJ)%aJ:=rfl;have hX:=Xk s d;have hY:=Xl s d;have f1:=bJ hs hs;have f2:=bJ u2 u2;have f3:=bJ u1 u1;generalize Xh s d=X at *;generalize RV s d=Y at *;generalize Xg s d=I at *;generalize rVR s d=V at *;generalize Uh s=U1 at *;generalize KU s=U2 at *;obtain ⟨i,ok⟩:=I;dsimp only at *;refine aI f1 ?_;refine aI e1 ?_;refine aI e2 ?_;refine aI f2 ?_;refine aI f3 ?_;refine aI e5 ?_;refine aI e6 ?_;refine aI e7 ?_;refine aI e8 ?_;refine aI e9 ?_;refine aI (bJ hI u2) ?_;refine aI (bJ (mP (i*U2)) hV) ?_;refine aI (bJ hI (mP (i*U2%aJ*V))) ?_;refine aI (wE hs hs) ?_;refine aI (bJ (mP (s+s)) (mP (i*U2))) ?_;refine aI (AD (mP ((s+s)%aJ*(i*U2%aJ)))) ?_;rw [<-dX];refine aI (bJ u1 (mP (i*(i*U2%aJ*V%aJ)))) ?_;rw [<-dY];cases ok
 ·exact Aa rfl
 rw [jW,aD,jX];refine aI (bJ hX hY) ?_;refine aI (AC (nbL (mP (X*Y)))) ?_;cases Nat.beq (X*Y%aJ%2) 1;rotate_left
 ·exact Aa rfl
 rw [aD,lL,jX,V5];cases Nat.beq Y 0
 ·rw [aD,lL,aB];show some (AV.tup [CV.mix [SV.dat (TRow.ints i64 (nb X)) (nb X).length 1,SV.dat (TRow.ints i64 (nb Y)) (nb Y).length 1,SV.dat (TRow.ints i64 [1]) 1 1],CV.s (SV.pl (Pl.bool true))])=some (AV.tup [CV.mix [SV.dat (TRow.ints i64 (nb X)) (nb X).length 1,SV.dat (TRow.ints i64 (nb Y)) (nb Y).length 1,SV.dat (TRow.ints i64 (nb 1)) (nb 1).length 1],CV.s (SV.pl (Pl.bool true))]);rw [show nb 1=[1] by decide]; rfl
 ·exact Aa rfl
theorem aMm (a:List Int) (d:Nat) (ha:fR a=true) (hd:d < aJ) (m fu:Nat):∀ (e n i:Nat),i+e=32->e < n ->
  eS prog aGl fu Ui (OY _ z7 (λ t=>nb t) (λ t=>(nb t).length) _ rRP (λ t=>nb t) (λ t=>(nb t).length) _ nE (λ t=>t) _ GL (λ t=>t) _ zV (λ t=>nb t.x) (λ t=>(nb t.x).length) (λ t=>nb t.y) (λ t=>(nb t.y).length) (λ t=>nb t.z) (λ t=>(nb t.z).length) _ oR (λ t=>nb t) (λ t=>(nb t).length) _ y7 (λ t=>nb t) (λ t=>(nb t).length) _ GK (λ t=>nb t) (λ t=>(nb t).length) _ JD (λ t=>nb t.fst) (λ t=>(nb t.fst).length) (λ t=>t.2) _ Dp (λ t=>nb t) (λ t=>(nb t).length) fu) n (some (OX (nb d) (nb d).length 32 (i:Int) a m (a.take i++List.replicate (32 - i) 0)))=some (JZ.enc (zF a d)):=by
 obtain ⟨hl,hb⟩:=j3 ha;intro e
 induction e with
 | zero=>
  intro n i hi hn;obtain ⟨n,rfl⟩:=aP (by omega:n ≠ 0);have e:i=32:=by omega
  subst e;rw [aF,aGh,aH (by omega),aD,aR,i0,uQ,i8,fB (by omega)];exact aVC a d ha hd m fu
 | succ e ih=>
  intro n i hi hn;obtain ⟨n,rfl⟩:=aP (by omega:n ≠ 0);have h:=ih n (i+1) (by omega) (by omega);rw [aF,aGh,aE (by omega),aB,aE (by omega),aB,aE (by omega),aB,bE,bS,HI a 32 i hl (by omega),bY (by omega) (by omega)];exact h
theorem aGm:CallOk prog 24 JZ:=by
 refine aZ (fu:=λ _=>40) aMl Tryz.func24 ?_;intro args t ht;obtain ⟨a,d,rfl,ha,hd,rfl⟩:=aGH (F:=zF) ht;refine (aVx ..).trans ?_;exact aMm a d ha hd 32 40 32 40 0 (by omega) (by omega)
theorem aAs {a:List Int} {d:Nat} (ha:fR a=true) (hd:d < aJ):aGg [lS a,eN d]=some (zF a d):=aVQ zF ha hd
abbrev aGn:Cg:=RZ 
theorem aMn:CfOk prog aGn.c:=gk <| aK
theorem aMo (a:List Int) (ha:fR a=true) (m fu:Nat):∀ (e n i:Nat),i+e=32->e < n ->
  eS prog aGn fu Uj (Uk fu) n (some (OZ 32 (i:Int) a m (a.take i++List.replicate (32 - i) 0)))=some (.str (a.map b8)):=by
 obtain ⟨hl,hb⟩:=j3 ha;intro e
 induction e with
 | zero=>
  intro n i hi hn;obtain ⟨n,rfl⟩:=aP (by omega:n ≠ 0);have e:i=32:=by omega
  subst e;rw [aF,aGj,aH (by omega),aD,aR,i0,uQ,i8,fB (by omega),aGk]
 | succ e ih=>
  intro n i hi hn;obtain ⟨n,rfl⟩:=aP (by omega:n ≠ 0);have h:=ih n (i+1) (by omega) (by omega);rw [aF,aGj,aE (by omega),aB,aE (by omega),aB,aE (by omega),aB,bE,bS,HI a 32 i hl (by omega),bY (by omega) (by omega)];exact h
theorem Xm:CallOk prog 11 aPs:=by
 refine aZ (fu:=λ _=>40) aMn Tryz.func11 ?_;intro args t ht;obtain ⟨a,rfl,ha,rfl⟩:=nI (F:=λ a=>a.map b8) ht;refine (aVz ..).trans ?_;exact aMo a ha 32 40 32 40 0 (by omega) (by omega)
theorem Rb {a:List Int} (h:fR a=true):Xi [lS a]=some (a.map b8):=xO (λ a=>a.map b8) h
abbrev aVD:Cg:=aPw (RP) Vq (λ t=>nb t.x) (λ t=>(nb t.x).length) (λ t=>nb t.y) (λ t=>(nb t.y).length) (λ t=>nb t.z) (λ t=>(nb t.z).length) (List Int) PZ (λ t=>t)
theorem aMp:CfOk prog aVD.c:=gk <| aA ZI <| aA Uw <| aK
theorem aMq:CallOk prog 25 aPt:=by
 refine i7 aMp Tryz.func25 ?_;intro args t ht;obtain ⟨p,n,d,rfl,hp,hn,hc,hd,rfl⟩:=Kv (F:=RW) (C:=λ n=>Nat.blt n lJ) ht;refine (aVA ..).trans ?_;refine aI (TH hp (dL.mp hc) hd) ?_;refine aI (Rm (ZH p n d)) ?_;rfl
theorem aGo {p:RP} {n d:Nat} (h:p.ok) (hn:n < lJ) (hd:d < aJ):aPu [Ei p,eN n,eN d]=some (RW p n d) :=
 Vt RW (λ n=>Nat.blt n lJ) h (cK (dA (k:=64) hn) (by decide)) (dL.mpr hn) hd
abbrev aVE:Cg:=aPx (Nat) rRD (λ t=>nb t) (λ t=>(nb t).length) (RP × Bool) aGg (λ t=>nb t.fst.x) (λ t=>(nb t.fst.x).length) (λ t=>nb t.fst.y) (λ t=>(nb t.fst.y).length) (λ t=>nb t.fst.z) (λ t=>(nb t.fst.z).length) (λ t=>t.2) (List Int) aPu (λ t=>t) (List UInt8) Xi (λ t=>t)
theorem aMr:CfOk prog aVE.c:=gk <| aA aZs <| aA aGm <| aA aMq <| aA Xm <| aK
theorem aGp:RX < aJ:=by decide
theorem aAt:CallOk prog 7 OW:=by
 refine i7 aMr Tryz.func7 ?_;intro args t ht;unfold OW at ht;simp only at ht;split at ht
 ·rename_i k i b;obtain ⟨h1,h2⟩:=cC ht;subst h2;rw [aX,aX] at h1;obtain ⟨⟨c1,c2⟩,c3⟩:=h1;obtain ⟨x,rfl,rfl,_,ex⟩:=o8 c1;rw [ex] at c2 ⊢;have hx:=dL.mp c2;have hp:=aMk b RX;refine (aVB ..).trans ?_;refine aI aWw ?_;refine aI (aAs (d:=RX) c3 aGp) ?_;have ht:=aGo (p:=(zF b RX).1) hp hx aGp;unfold evR;generalize zF b RX=p at *;obtain ⟨p,f⟩:=p;cases f
  ·rfl
  dsimp only at *;rw [jW,aD,aB,V5];show cond (decide (b=nM)) (some _) (cond (Nat.beq x 0) (some _) _)=_;cases decide (b=nM)
  ·cases Nat.beq x 0
   ·refine aI ht ?_;refine aI (Rb (SF _)) ?_;rfl
   ·rfl
  ·rfl
 ·cases ht
theorem Ul {x:Nat} {b:List Int} (hx:x < lJ) (hb:fR b=true):Xj [eN x,lS b]=some (aAr (evR x b)):=by
 show cond (K3 (nb x) (nb x).length && Nat.blt (vB (nb x)) lJ && fR b) (some (aAr (evR (vB (nb x)) b))) none=_;rw [fY,nV (cK (dA (k:=64) hx) (by decide)),dL.mpr hx,hb]; rfl
theorem aGq {p c:Pt} {g h:CP.G} (hp:PT p g) (hc:PT c h) (b:Bool):PT (yZ p c b) (cond b (CP.add (CP.add h h) g) (CP.add h h)):=by
 cases b
 ·exact TA hc
 ·exact aRR (TA hc) hp
theorem aAu {p c:RP} {g h:CP.G} (hp:RPT p g) (hc:RPT c h) (b:Bool):RPT (F9 p ZD c b) (cond b (CP.add (CP.add h h) g) (CP.add h h)):=by
 cases b
 ·exact Nu hc hc
 ·exact Nu (Nu hc hc) hp
theorem aAv {p:Pt} {r:RP} {g:CP.G} (hp:PT p g) (hr:RPT r g):∀ (l:List Bool) (c:Pt) (d:RP) (h:CP.G),PT c h->RPT d h->∃ G,PT (l.foldl (yZ p) c) G /\ RPT (l.foldl (F9 r ZD) d) G:=by
 intro l
 induction l with
 | nil=>intro c d h hc hd; exact ⟨h,hc,hd⟩
 | cons b l ih=>intro c d h hc hd; exact ih _ _ _ (aGq hp hc b) (aAu hr hd b)
theorem aYN (p:Pt) (A:Nat):∀ (e:Nat) (c:Pt),PT c CP.zero->∃ c',PT c' CP.zero /\ (fQ A (bl A+e)).foldl (yZ p) c=(fQ A (bl A)).foldl (yZ p) c':=by
 intro e
 induction e with
 | zero=>intro c hc; exact ⟨c,hc,rfl⟩
 | succ e ih=>
  intro c hc;have hb:rR A (bl A+e)=false:=by
   unfold rR;have h1:A < 2 ^ (bl A+e):=cU (xK A).1 (iK (by omega) (by omega));rw [jJ h1]; rfl
  have hz:=TA hc;rw [CP.add_zero] at hz;obtain ⟨c',q1,q2⟩:=ih (Gm c) hz;refine ⟨c',q1,?_⟩;show (fQ A (bl A+e)).foldl (yZ p) (yZ p c (rR A (bl A+e)))=_;rw [hb];exact q2
theorem Um {p:Pt} {r:RP} {g:CP.G} (hp:PT p g) (hr:RPT r g) {k:Nat} (hk:k < 2 ^ 253):lo 32 (fv (i3 (kK p (fQ k 253)))%aJ)=lo 32 (kC (Bf (xJ r k ZD)).1 (Bf (xJ r k ZD)).2):=by
 have hl:=IM hk;obtain ⟨c,hc,e⟩:=aYN p k (253 - bl k) gZ Vn;rw [show bl k+(253 - bl k)=253 by omega] at e;obtain ⟨G,a,b⟩:=aAv hp hr (fQ k (bl k)) c pZ CP.zero hc aEW;rw [<-e] at a;exact UI a b
section
variable {q:Nat} [NeZero q]
theorem sg1 {a b r v y:Fin q} (h:v*(b*b)*(r*r)=1) (hy:y=a*(r*(r*b)*v)):y*y*(b*b)=a*a:=by
 have e:y*y*(b*b)=a*a*(v*(b*b)*(r*r))*(v*(b*b)*(r*r)):=by subst hy; clear h; grind (splits:=0) -lia -linarith
 rw [e,h];clear e h hy;grind (splits:=0) -lia -linarith
theorem sg2 {s b r v x:Fin q} (h:v*(b*b)*(r*r)=1) (hx:x*x=(s+s)*(r*b)*((s+s)*(r*b))):x*x*v=4*(s*s):=by
 have e:x*x*v=4*(s*s)*(v*(b*b)*(r*r)):=by rw [hx]; clear h hx; grind (splits:=0) -lia -linarith
 rw [e,h];clear e h hx;grind (splits:=0) -lia -linarith
theorem sg3 {d s v x y:Fin q} (hv:v=-(d*((1 - s*s)*(1 - s*s))) - (1+s*s)*(1+s*s)) (h1:y*y*((1+s*s)*(1+s*s))=(1 - s*s)*(1 - s*s)) (h2:x*x*v=4*(s*s)) :
  (y*y - x*x - (1+d*x*x*y*y))*(v*((1+s*s)*(1+s*s)))=0:=by
 have e:(y*y - x*x - (1+d*x*x*y*y))*(v*((1+s*s)*(1+s*s)))=y*y*((1+s*s)*(1+s*s))*v - x*x*v*((1+s*s)*(1+s*s)) - v*((1+s*s)*(1+s*s)) - d*(x*x*v)*(y*y*((1+s*s)*(1+s*s))):=by
  clear hv h1 h2; grind (splits:=0) -lia -linarith
 rw [e,h1,h2];clear e h1 h2;subst hv;grind (splits:=0) -lia -linarith
theorem sg4 {E w r:Fin q} (h:w*(r*r)=1) (h0:E*w=0):E=0:=by
 have e:E*w*(r*r)=E*(w*(r*r)):=by clear h h0; grind (splits:=0) -lia -linarith
 rw [h,h0,Ao,q9] at e;exact e.symm
theorem sg5 {a b:Fin q} (h:a - b=0):a=b:=by grind (splits:=0) -lia -linarith
theorem sg6 {s:Fin q}:s+s=2*s:=by grind (splits:=0) -lia -linarith
end
theorem aVF {a:Fin QP}:qA a=0 ↔ a=0:=by
 constructor
 ·intro h;rcases HL a with e | e
  ·rw [<-e]; exact h
  ·rw [h] at e;have e2:-(-a)=a:=by grind (splits:=0) -lia -linarith
   rw [<-e2,<-e]; exact LM
 ·rintro rfl; rfl
theorem aVG {s:Fin QP} (hb:(Wp s).2=true):CP.On2 (Wq s,Zw s):=by
 have R:=wH 1 (paV s*((1+s*s)*(1+s*s)));have eR:Di 1 (paV s*((1+s*s)*(1+s*s)))=Wp s:=rfl;rw [eR] at R;have hr:=R.yes hb;have hy:=sg1 (y:=Zw s) hr rfl;have hx:=sg2 (x:=Wq s) hr (da7 (HL _) rfl);exact sg5 (sg4 hr (sg3 rfl hy hx))
theorem aVH {s:Fin QP} (hb:(Wp s).2=true):Wq s=0 ↔ s=0:=by
 have R:=wH 1 (paV s*((1+s*s)*(1+s*s)));have eR:Di 1 (paV s*((1+s*s)*(1+s*s)))=Wp s:=rfl;rw [eR] at R;have hr:=R.yes hb;unfold Wq;rw [aVF];generalize (Wp s).1=r at *;constructor
 ·intro h;rcases Classical.em (s=0) with h0 | h0
  ·exact h0
  ·exfalso;have r0:r ≠ 0:=λ e=>by
    rw [e,jY,jY] at hr;exact CP.h1 hr.symm
   have b0:1+s*s ≠ 0:=λ e=>by
    rw [e,jY,jY,q9] at hr;exact CP.h1 hr.symm
   rw [sg6] at h;exact CP.mul_ne (CP.mul_ne CP.h2 h0) (CP.mul_ne r0 b0) h
 ·rintro rfl;rw [sg6,jY,q9]
theorem aGr (s:Nat):fn (Uh s)=1 - fn s*fn s:=by
 unfold Uh;rw [bR,uF (mP _),oU,bR,bQ]
theorem Oa (s:Nat):fn (KU s)=1+fn s*fn s:=by
 unfold KU;rw [bR,qL,oU,bR,bQ]
theorem aYO:fn dN=CP.d:=rfl
theorem aGs (s:Nat):fn (rVR s dN)=paV (fn s):=by
 unfold rVR paV;rw [bR,uF (mP _),bR,uF (mP _),t7,bR,bQ,bR,bQ,aGr,bR,bQ,Oa,tB,aYO]
theorem Un (s:Nat):fn (Xg s dN).1=(Wp (fn s)).1 /\ (Xg s dN).2=(Wp (fn s)).2:=by
 have h:=aEK (u:=1) (v:=rVR s dN*(KU s*KU s%aJ)%aJ) qZ (mP _);rw [oU,bR,bQ,bR,bQ,aGs,Oa] at h;exact h
theorem aGt (s:Nat):fn (Xh s dN)=Wq (fn s):=by
 unfold Xh Wq;rw [W0 (mP _),bR,bQ,bR,qL,bR,bQ,(Un s).1,Oa]
theorem Uo (s:Nat):fn (RV s dN)=Zw (fn s):=by
 unfold RV Zw;rw [bR,bQ,bR,bQ,bR,bQ,bR,bQ,aGr,(Un s).1,Oa,aGs];congr 1;generalize (Wp (fn s)).1=r;generalize paV (fn s)=v;generalize 1+fn s*fn s=b;exact (Fin.mul_assoc r (r*b) v).symm
theorem aGu (s d:Nat):RV s d < aJ:=by
 unfold RV;exact mP _
theorem aVI (s d:Nat):Xh s d < aJ:=by
 unfold Xh;exact Gy (mP _)
theorem aMs {s:Nat} (hs:s < aJ):Lg s dN=I7 (fe s):=by
 have ho:=cV s;have es:ph (fe s)=fn s:=B8 hs;have ey:RV s dN=fv (KQ (fe s))%aJ:=by
  have h:fn (RV s dN)=fn (fv (KQ (fe s))):=by
   rw [Uo,<-es];exact (Nn ho).symm
  have h:=tZ.1 h;rwa [aV (aGu s dN)] at h
 have e1:Nat.beq (s%2) 1=oX (fe s):=by rw [Ns,es]; exact Wz hs
 have e2:(Xg s dN).2=(Ty (fe s)).2:=by rw [(Un s).2,(Nm ho).2,es]
 have e3:Nat.beq (Xh s dN*RV s dN%aJ%2) 1=oX (pTF (fe s)):=by
  rw [Nt,bQ,aGt,Uo,Ns,<-es];unfold pTF;rw [bL,aEu ho,Nn ho]
 unfold Lg I7 Gn;rw [e1,e2,e3,ey]
theorem aVJ {b:List Int} (hb:fR b=true):b=nM ↔ vB b=0:=by
 obtain ⟨hl,ho⟩:=j3 hb;constructor
 ·rintro rfl; decide
 ·intro h;have e:=Ic b ho;rw [hl,h] at e;rw [<-e]; decide
theorem Up {k:Nat} {b:List Int} {r:Pt × Int} (hr:nL b=r):oP k b=cond (decide (r.2=0)) (cond (Nat.beq k 0) (nM,9) (lo 32 (fv (i3 (kK r.1 (fQ k 253)))%aJ),0)) (nM,r.2):=by
 subst hr; rfl
theorem aGv {k:Nat} {b:List Int} {p:RP × Bool} (hr:zF b RX=p):evR k b=cond p.2 (cond (decide (b=nM) || Nat.beq k 0) (nM,9) (RW p.1 k RX,0)) (nM,8):=by
 subst hr; rfl
theorem aGw {b:List Int} {p:Pt × Int} (hr:oK b=p):nL b=cond (decide (p.2=0) && vM p.1 gZ) (p.1,9) p:=by
 subst hr; rfl
theorem aGx {g:CP.G}:sim g CP.zero ↔ e4 g:=by
 constructor
 ·intro k;obtain ⟨t,ht,e⟩:=aEm k;have:g=CP.neg t:=CP.neg_eq e.symm;rw [this]; exact aEl ht
 ·intro k;exact aTN (aEl k) (CP.add_neg g).symm
theorem aMt {p:Pt} {g:CP.G} (hp:PT p g):vM p gZ=true ↔ e4 g:=(aTO hp Vn).trans aGx
theorem aYP:LN < 2 ^ 253:=by decide
theorem bAk {k:Nat} {b:List Int} {M:RP} {N:Pt} (h1:zF b RX=(M,false)) (h2:oK b=(N,8)):evR k b=oP k b:=by
 have hr:=aGw h2;dsimp only at hr;rw [aH (by decide:¬ (8:Int)=0),pC,aD] at hr;rw [aGv h1,Up hr];dsimp only;rw [aH (by decide:¬ (8:Int)=0),aD,aD]
theorem bAl {k:Nat} {b:List Int} {P:Pt} {R:RP} (h1:zF b RX=(R,true)) (h2:oK b=(P,0)) (h3:vM P gZ=decide (b=nM)) (h4:lo 32 (fv (i3 (kK P (fQ k 253)))%aJ)=RW R k RX):evR k b=oP k b:=by
 have hr:=aGw h2;dsimp only at hr;rw [aE (rfl:(0:Int)=0),jX,h3] at hr;rw [aGv h1];dsimp only;cases hd:decide (b=nM)
 ·rw [hd,aD] at hr;rw [Up hr];dsimp only;rw [aE (rfl:(0:Int)=0),aB,aB,Cu,h4]
 ·rw [hd,aB] at hr;rw [Up hr];dsimp only;rw [aH (by decide:¬ (9:Int)=0),aD,aB,Fp,aB]
theorem aGy {s:Nat} (hs:s < aJ):Lg s RX=I7 (fe s):=aMs hs
theorem aYQ {s:Nat} (hs:s < aJ) (hg:I7 (fe s)=true) (b:List Int) (hz:b=nM ↔ s=0) {k:Nat} (hk:k < LN) :
  vM (ptP (fe s)) gZ=decide (b=nM) /\ lo 32 (fv (i3 (kK (ptP (fe s)) (fQ k 253)))%aJ)=RW ⟨Xh s RX,RV s RX,1⟩ k RX:=by
 have ho:=cV s;have es:ph (fe s)=fn s:=B8 hs;have hi:(Wp (fn s)).2=true /\ Zw (fn s) ≠ 0:=by
  unfold I7 at hg;rw [aX,aX,aX,VH,VH,VH,(Nm ho).2,es] at hg;refine ⟨hg.2.1,λ e=>?_⟩;have h0:ph (KQ (fe s))=0:=by rw [Nn ho,es]; exact e
  have h1:fv (KQ (fe s))%aJ=0:=nD.1 h0;have h2:=hg.2.2.2;unfold Gn at h2;rw [h1] at h2;cases h2
 clear hg;have on:=aVG hi.1;have px:ph (Zx (fe s))=Wq (fn s):=by rw [aEu ho,es]
 have py:ph (KQ (fe s))=Zw (fn s):=by rw [Nn ho,es]
 have P:PT (ptP (fe s)) ⟨(Wq (fn s),Zw (fn s)),on⟩:=by
  have h:=P8 (Nj ho) (Nk ho) (by rw [px,py]; exact on);have e1:(⟨(ph (Zx (fe s)),ph (KQ (fe s))),by rw [px,py]; exact on⟩:CP.G)=⟨(Wq (fn s),Zw (fn s)),on⟩:=yW (by show (ph (Zx (fe s)),ph (KQ (fe s)))=_; rw [px,py]);rw [e1] at h;exact h
 have R:RPT ⟨Xh s dN,RV s dN,1⟩ ⟨(Wq (fn s),Zw (fn s)),on⟩:=by
  have ex:=aGt s;have ey:=Uo s;have lx:=aVI s dN;have ly:=aGu s dN;generalize Xh s dN=X at *;generalize RV s dN=Y at *;refine ⟨⟨lx,ly,qZ⟩,?_,?_,?_⟩
  ·show fn 1 ≠ 0;rw [oU]; exact CP.h1
  ·show fn X=Wq (fn s)*fn 1;rw [oU,Ao,ex]
  ·show fn Y=Zw (fn s)*fn 1;rw [oU,Ao,ey]
 constructor
 ·rw [J6,decide_eq_true_iff,aMt P,hz];show Wq (fn s)=0 ∨ Zw (fn s)=0 ↔ _;rw [aVH hi.1,nD,aV hs];exact ⟨λ h=>h.resolve_right hi.2,.inl⟩
 ·exact Um P R (fC hk aYP)
theorem aMu {k:Nat} {b:List Int} (hb:fR b=true) (hk:k < LN):evR k b=oP k b:=by
 have hz:=aVJ hb;cases hc:(Nat.blt (vB b) aJ && I7 (fe (vB b)))
 ·refine bAk (M:=pZ) (N:=gZ) ?_ ?_
  ·unfold zF;cases hlt:Nat.blt (vB b) aJ
   ·rw [pC,aD]
   ·rw [hlt] at hc;rw [aGy (dL.mp hlt),hc,aD]
  ·unfold oK;rw [hc,aD]
 ·have hc2:=hc;rw [aX] at hc2;have hs:=dL.mp hc2.1;obtain ⟨q1,q2⟩:=aYQ hs hc2.2 b hz hk;refine bAl ?_ ?_ q1 q2
  ·unfold zF;rw [aGy hs,hc,aB]
  ·unfold oK;rw [hc,aB]
end
end Go.Eng
