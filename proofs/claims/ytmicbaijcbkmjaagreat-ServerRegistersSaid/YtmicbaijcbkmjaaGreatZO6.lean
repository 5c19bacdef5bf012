import Derived.Test.YtmicbaijcbkmjaaGreatZO3
namespace Go.Eng
open Go.IntKind (u64 i64 u8)
noncomputable section
open Go Go.Proofs
set_option linter.all false
def Th (s:Nat):Nat:=(1+aJ - s*s%aJ)%aJ
def KO (s:Nat):Nat:=(1+s*s%aJ)%aJ
def rVR (s d:Nat):Nat:=((0+aJ - d*(Th s*Th s%aJ)%aJ)%aJ+aJ - KO s*KO s%aJ)%aJ
def WX (s d:Nat):Nat × Bool:=Bi 1 (rVR s d*(KO s*KO s%aJ)%aJ)
def WY (s d:Nat):Nat:=oW ((s+s)%aJ*((WX s d).1*KO s%aJ)%aJ)
def Qk (s d:Nat):Nat:=Th s*((WX s d).1*((WX s d).1*KO s%aJ*rVR s d%aJ)%aJ)%aJ
def LK (s d:Nat):Bool:=!Nat.beq (s%2) 1 && ((WX s d).2 && (!Nat.beq (WY s d*Qk s d%aJ%2) 1 && !Nat.beq (Qk s d) 0))
def zF (a:List Int) (d:Nat):RP × Bool:=cond (Nat.blt (vB a) aJ && LK (vB a) d) (⟨WY (vB a) d,Qk (vB a) d,1⟩,true) (qB,false)
def Il:Summ where
 T:=RP × Bool
 run:=Vn zF
 enc:=λ t=>.tup [.mix [.dat (.ints .i64 (nb t.1.x)) (nb t.1.x).length 1,.dat (.ints .i64 (nb t.1.y)) (nb t.1.y).length 1,.dat (.ints .i64 (nb t.1.z)) (nb t.1.z).length 1],.s (.pl (.bool t.2))]
def aDO:FA (RP × Bool):=Il.run
def aOH:Summ:={ T:=Str,run:=vV λ a=>a.map b8,enc:=λ t=>.str t }
def WZ:FA Str:=aOH.run
def Ql (p:RP) (k d:Nat):List Int:=lo 32 (kK (Bl (yJ p k d)).1 (Bl (yJ p k d)).2)
def aOI:Summ:={ T:=List Int,run:=Je Ql λ n=>Nat.blt n lG,enc:=lR }
def aOJ:FA (List Int):=aOI.run
abbrev Qm:Nat:=37095705934669439343138083508754565189542113879843219016388785533085940283555
def evR (k:Nat) (b:List Int):List Int × Int :=
 cond (zF b Qm).2 (cond (decide (b=nN) || Nat.beq k 0) (nN,9) (Ql (zF b Qm).1 k Qm,0)) (nN,8)
def Zb (t:List Int × Int):Str × Int:=(cond (decide (t.2=0)) (t.1.map b8) [],t.2)
def NZ:Summ where
 T:=Str × Int
 run:=λ
  | [.c (.s (.dat (.ints .i64 k) i 1)),.c (.s (.pl (.agg (.ints .u8 b) 32)))]=>cond (Lm k i && Nat.blt (vB k) lG && fR b) (some (Zb (evR (vB k) b))) none
  | _=>none
 enc:=eSE
def Wa:FA (Str × Int):=NZ.run
section
variable (T0:Type) (R0:FA T0) (aG:T0->List Int) (aM:T0->Nat) (T1:Type) (R1:FA T1) (aN:T1->List Int) (bI:T1->Nat) (T2:Type) (R2:FA T2) (bC:T2->Int) (T3:Type) (R3:FA T3) (bO:T3->Bool) (T4:Type) (R4:FA T4) (eV:T4->List Int) (jS:T4->Nat) (zI:T4->List Int) (Bb:T4->Nat) (Be:T4->List Int) (f4f:T4->Nat) (T5:Type) (R5:FA T5) (fW:T5->List Int) (iU:T5->Nat) (T6:Type) (R6:FA T6) (oH:T6->List Int) (oI:T6->Nat) (T7:Type) (R7:FA T7) (xB:T7->List Int) (Eh:T7->Nat) (T8:Type) (R8:FA T8) (vL:T8->List Int) (wY:T8->Nat) (Bt:T8->Bool) (T9:Type) (R9:FA T9) (zE:T9->List Int) (Cy:T9->Nat)
def Qn:Cg:=⟨⟨dD [(28,⟨R0,λ t=>AV.s (dI (aG t) (aM t))⟩),(45,⟨R1,λ t=>AV.s (dI (aN t) (bI t))⟩),(44,⟨R2,λ t=>AV.int .i64 (bC t)⟩),(46,⟨R3,λ t=>AV.bool (bO t)⟩),(47,⟨R4,λ t=>AV.c (.mix [dI (eV t) (jS t),dI (zI t) (Bb t),dI (Be t) (f4f t)])⟩),(40,⟨R5,λ t=>AV.s (dI (fW t) (iU t))⟩),(41,⟨R6,λ t=>AV.s (dI (oH t) (oI t))⟩),(48,⟨R7,λ t=>AV.s (dI (xB t) (Eh t))⟩),(49,⟨R8,λ t=>AV.tup [.s (dI (vL t) (wY t)),.s (.pl (.bool (Bt t)))]⟩),(50,⟨R9,λ t=>AV.s (dI (zE t) (Cy t))⟩)],[],dS⟩,[(4,[1,2,4,6,7],[1,4,6])]⟩
def Na (x1:List Int) (n1 n6:Nat) (v7:Int) (aQ:List Int) (iM:Nat) (cT:List Int):St:={ tm:=[(1,.s (dI x1 n1)),(2,.s (.ptr 0 0 32)),(4,.s (.ptr 1 0 3)),(6,.s (.own 2 n6 1)),(7,.int .i64 v7)],hp:=[(0,{ ty:=23,n:=32,row:=Row.t (.ints .u8 aQ) }),(1,{ ty:=63,n:=3,row:=Row.mix [.pl (.raw (Value.slice none 0 0)),.pl (.raw (Value.slice none 0 0)),.pl (.raw (Value.slice none 0 0))] }),(2,{ ty:=5,n:=iM,row:=Row.t (.ints .u8 cT) })],nx:=3,sz:=108 }
def Ti:Code:=cM (bN [1,1,0,1,2] (bD Tryz.f24))
def Nb (fu:Nat):=lO prog (Qn T0 R0 aG aM T1 R1 aN bI T2 R2 bC T3 R3 bO T4 R4 eV jS zI Bb Be f4f T5 R5 fW iU T6 R6 oH oI T7 R7 xB Eh T8 R8 vL wY Bt T9 R9 zE Cy) fu [1,1,0,1,2] (bD Tryz.f24) (fQ prog Tryz.f24)
abbrev aTw (fu:Nat) (x1:List Int) (n1 n6:Nat) (v7:Int) (aQ:List Int) (iM:Nat) (cT:List Int):=eS prog (Qn T0 R0 aG aM T1 R1 aN bI T2 R2 bC T3 R3 bO T4 R4 eV jS zI Bb Be f4f T5 R5 fW iU T6 R6 oH oI T7 R7 xB Eh T8 R8 vL wY Bt T9 R9 zE Cy) fu Ti (Nb T0 R0 aG aM T1 R1 aN bI T2 R2 bC T3 R3 bO T4 R4 eV jS zI Bb Be f4f T5 R5 fW iU T6 R6 oH oI T7 R7 xB Eh T8 R8 vL wY Bt T9 R9 zE Cy fu ) fu (some (Na x1 n1 n6 v7 aQ iM cT))
theorem aTx (fu:Nat) (a:List Int) (d:Nat):bB prog Tryz.f24 (Qn T0 R0 aG aM T1 R1 aN bI T2 R2 bC T3 R3 bO T4 R4 eV jS zI Bb Be f4f T5 R5 fW iU T6 R6 oH oI T7 R7 xB Eh T8 R8 vL wY Bt T9 R9 zE Cy) fu [.agg (.ints .u8 a) 32,eN d]=aTw T0 R0 aG aM T1 R1 aN bI T2 R2 bC T3 R3 bO T4 R4 eV jS zI Bb Be f4f T5 R5 fW iU T6 R6 oH oI T7 R7 xB Eh T8 R8 vL wY Bt T9 R9 zE Cy fu (nb d) (nb d).length 32 0 a 32 (List.replicate 32 0):=by kernel_rfl
def Im (x1:List Int) (n1 n6 dP:Nat) (bA:List Int):St:={ tm:=[(1,.s (dI x1 n1)),(4,.s (.ptr 0 0 3)),(6,.s (.own 1 n6 1))],hp:=[(0,{ ty:=63,n:=3,row:=Row.mix [.pl (.raw (Value.slice none 0 0)),.pl (.raw (Value.slice none 0 0)),.pl (.raw (Value.slice none 0 0))] }),(1,{ ty:=5,n:=dP,row:=Row.t (.ints .u8 bA) })],nx:=2,sz:=108 }
theorem aDP {β:Type} (fu:Nat) (G:FG β) (H:FH β) (x1:List Int) (n1 n6:Nat) (v7:Int) (aQ:List Int) (iM:Nat) (cT:List Int):fI prog (Qn T0 R0 aG aM T1 R1 aN bI T2 R2 bC T3 R3 bO T4 R4 eV jS zI Bb Be f4f T5 R5 fW iU T6 R6 oH oI T7 R7 xB Eh T8 R8 vL wY Bt T9 R9 zE Cy) fu Ti G H (Na x1 n1 n6 v7 aQ iM cT)=bif decide (v7 < 32) then bif decide (0 <= v7 /\ v7 < 32) then bif decide (0 <= v7 /\ v7 < (n6:Int)) then G (some (Na x1 n1 n6 (i64.wrap (v7+1)) aQ iM (cT.set v7.toNat (aQ.getD (0+v7.toNat) 0)))) else none else none else H (Ex.exit 0) (some (Im x1 n1 n6 iM cT)):=by kernel_rfl
theorem aDQ (fu:Nat) (x1:List Int) (n1 n6 dP:Nat) (bA:List Int):Nb T0 R0 aG aM T1 R1 aN bI T2 R2 bC T3 R3 bO T4 R4 eV jS zI Bb Be f4f T5 R5 fW iU T6 R6 oH oI T7 R7 xB Eh T8 R8 vL wY Bt T9 R9 zE Cy fu  (Ex.exit 0) (Im x1 n1 n6 dP bA)=(R0 [.str (List.map b8 bA)]).bind λ t=>(R1 []).bind λ dH=>(R2 [.s (dI (aG t) (aM t)),.s (dI (aN dH) (bI dH))]).bind λ eU=>bif decide (0 <= bC eU) then (R4 []).bind λ t=>some (AV.tup [.mix [dI (eV t) (jS t),dI (zI t) (Bb t),dI (Be t) (f4f t)],.s (.pl (.bool false))]) else (R3 [.s (dI (aG t) (aM t))]).bind λ gF=>bif bO gF then (R4 []).bind λ t=>some (AV.tup [.mix [dI (eV t) (jS t),dI (zI t) (Bb t),dI (Be t) (f4f t)],.s (.pl (.bool false))]) else (R5 [.s (dI (aG t) (aM t)),.s (dI (aG t) (aM t))]).bind λ gT=>(R6 [.s (dI [1] 1),.s (dI (fW gT) (iU gT))]).bind λ gJ=>(R7 [.s (dI [1] 1),.s (dI (fW gT) (iU gT))]).bind λ kA=>(R5 [.s (dI (xB kA) (Eh kA)),.s (dI (xB kA) (Eh kA))]).bind λ vI=>(R5 [.s (dI (oH gJ) (oI gJ)),.s (dI (oH gJ) (oI gJ))]).bind λ tP=>(R5 [.s (dI x1 n1),.s (dI (fW tP) (iU tP))]).bind λ tQ=>(R6 [.s (dI [] 0),.s (dI (fW tQ) (iU tQ))]).bind λ gX=>(R6 [.s (dI (oH gX) (oI gX)),.s (dI (fW vI) (iU vI))]).bind λ gM=>(R5 [.s (dI (oH gM) (oI gM)),.s (dI (fW vI) (iU vI))]).bind λ iV=>(R8 [.s (dI [1] 1),.s (dI (fW iV) (iU iV))]).bind λ fO=>(R5 [.s (dI (vL fO) (wY fO)),.s (dI (xB kA) (Eh kA))]).bind λ gO=>(R5 [.s (dI (fW gO) (iU gO)),.s (dI (oH gM) (oI gM))]).bind λ qE=>(R5 [.s (dI (vL fO) (wY fO)),.s (dI (fW qE) (iU qE))]).bind λ mS=>(R7 [.s (dI (aG t) (aM t)),.s (dI (aG t) (aM t))]).bind λ t=>(R5 [.s (dI (xB t) (Eh t)),.s (dI (fW gO) (iU gO))]).bind λ t=>(R9 [.s (dI (fW t) (iU t))]).bind λ t=>(R5 [.s (dI (oH gJ) (oI gJ)),.s (dI (fW mS) (iU mS))]).bind λ gA=>bif !Bt fO then (R4 []).bind λ t=>some (AV.tup [.mix [dI (eV t) (jS t),dI (zI t) (Bb t),dI (Be t) (f4f t)],.s (.pl (.bool false))]) else (R5 [.s (dI (zE t) (Cy t)),.s (dI (fW gA) (iU gA))]).bind λ gY=>(R3 [.s (dI (fW gY) (iU gY))]).bind λ oG=>bif bO oG then (R4 []).bind λ t=>some (AV.tup [.mix [dI (eV t) (jS t),dI (zI t) (Bb t),dI (Be t) (f4f t)],.s (.pl (.bool false))]) else bif decide ((↑(iU gA):Int)=0) then (R4 []).bind λ t=>some (AV.tup [.mix [dI (eV t) (jS t),dI (zI t) (Bb t),dI (Be t) (f4f t)],.s (.pl (.bool false))]) else some (AV.tup [.mix [dI (zE t) (Cy t),dI (fW gA) (iU gA),dI [1] 1],.s (.pl (.bool true))]):=by kernel_rfl
end
def Qo:Cg:=⟨⟨dD [],[],dS⟩,[(4,[1,3,4],[3])]⟩
def Nc (n3:Nat) (v4:Int) (aQ:List Int) (dP:Nat) (bA:List Int):St:={ tm:=[(1,.s (.ptr 0 0 32)),(3,.s (.own 1 n3 1)),(4,.int .i64 v4)],hp:=[(0,{ ty:=23,n:=32,row:=Row.t (.ints .u8 aQ) }),(1,{ ty:=5,n:=dP,row:=Row.t (.ints .u8 bA) })],nx:=2,sz:=18 }
def Tj:Code:=cM (bN [1,1,0,1,2] (bD Tryz.f11))
def Tk (fu:Nat):=lO prog Qo fu [1,1,0,1,2] (bD Tryz.f11) (fQ prog Tryz.f11)
abbrev aTy (fu:Nat) (n3:Nat) (v4:Int) (aQ:List Int) (dP:Nat) (bA:List Int):=eS prog Qo fu Tj (Tk fu ) fu (some (Nc n3 v4 aQ dP bA))
theorem aTz (fu:Nat) (a:List Int):bB prog Tryz.f11 Qo fu [.agg (.ints .u8 a) 32]=aTy fu 32 0 a 32 (List.replicate 32 0):=by kernel_rfl
def Qp (n3 gB:Nat) (aQ:List Int):St:={ tm:=[(3,.s (.own 0 n3 1))],hp:=[(0,{ ty:=5,n:=gB,row:=Row.t (.ints .u8 aQ) })],nx:=1,sz:=18 }
theorem aDR {β:Type} (fu:Nat) (G:FG β) (H:FH β) (n3:Nat) (v4:Int) (aQ:List Int) (dP:Nat) (bA:List Int):fI prog Qo fu Tj G H (Nc n3 v4 aQ dP bA)=bif decide (v4 < 32) then bif decide (0 <= v4 /\ v4 < 32) then bif decide (0 <= v4 /\ v4 < (n3:Int)) then G (some (Nc n3 (i64.wrap (v4+1)) aQ dP (bA.set v4.toNat (aQ.getD (0+v4.toNat) 0)))) else none else none else H (Ex.exit 0) (some (Qp n3 dP bA)):=by kernel_rfl
theorem aDS (fu:Nat) (n3 gB:Nat) (aQ:List Int):Tk fu  (Ex.exit 0) (Qp n3 gB aQ)=some (AV.str (List.map b8 aQ)):=by kernel_rfl
section
variable (T0:Type) (R0:FA T0) (aG:T0->List Int) (aM:T0->Nat) (cB:T0->List Int) (cE:T0->Nat) (cR:T0->List Int) (Sk:T0->Nat) (T1:Type) (R1:FA T1) (aN:T1->List Int)
def aOL:Cg:=⟨⟨dD [(52,⟨R0,λ t=>AV.c (.mix [dI (aG t) (aM t),dI (cB t) (cE t),dI (cR t) (Sk t)])⟩),(51,⟨R1,λ t=>AV.agg (.ints .u8 (aN t)) 32⟩)],[],dS⟩,[]⟩
theorem aTA (fu:Nat) (p:RP) (k d:Nat):bB prog Tryz.f25 (aOL T0 R0 aG aM cB cE cR Sk T1 R1 aN) fu [Ei p,eN k,eN d]=(R0 [.c (.mix [dI (nb p.x) (nb p.x).length,dI (nb p.y) (nb p.y).length,dI (nb p.z) (nb p.z).length]),.s (dI (nb k) (nb k).length),.s (dI (nb d) (nb d).length)]).bind λ t=>(R1 [.c (.mix [dI (aG t) (aM t),dI (cB t) (cE t),dI (cR t) (Sk t)])]).bind λ t=>some (AV.agg (.ints .u8 (aN t)) 32):=by kernel_rfl
end
section
variable (T0:Type) (R0:FA T0) (aG:T0->List Int) (aM:T0->Nat) (T1:Type) (R1:FA T1) (aN:T1->List Int) (bI:T1->Nat) (gV:T1->List Int) (gW:T1->Nat) (iL:T1->List Int) (f1f:T1->Nat) (f1g:T1->Bool) (T2:Type) (R2:FA T2) (bC:T2->List Int) (T3:Type) (R3:FA T3) (bO:T3->List UInt8)
def aOM:Cg:=⟨⟨dD [(23,⟨R0,λ t=>AV.s (dI (aG t) (aM t))⟩),(24,⟨R1,λ t=>AV.tup [.mix [dI (aN t) (bI t),dI (gV t) (gW t),dI (iL t) (f1f t)],.s (.pl (.bool (f1g t)))]⟩),(25,⟨R2,λ t=>AV.agg (.ints .u8 (bC t)) 32⟩),(11,⟨R3,λ t=>AV.str (bO t)⟩)],[],dS⟩,[]⟩
theorem aTB (fu:Nat) (k:Nat) (b:List Int):bB prog Tryz.f7 (aOM T0 R0 aG aM T1 R1 aN bI gV gW iL f1f f1g T2 R2 bC T3 R3 bO) fu [eN k,.agg (.ints .u8 b) 32]=(R0 []).bind λ t=>(R1 [.agg (.ints .u8 b) 32,.s (dI (aG t) (aM t))]).bind λ dH=>bif !f1g dH then some (AV.tup [.s (.pl (.str [])),.s (.pl (.int .i64 8))]) else bif decide (b=[0,0,0,0,0,0,0,0,0,0,0,0,0,0,0,0,0,0,0,0,0,0,0,0,0,0,0,0,0,0,0,0]) then some (AV.tup [.s (.pl (.str [])),.s (.pl (.int .i64 9))]) else bif decide ((↑(nb k).length:Int)=0) then some (AV.tup [.s (.pl (.str [])),.s (.pl (.int .i64 9))]) else (R2 [.c (.mix [dI (aN dH) (bI dH),dI (gV dH) (gW dH),dI (iL dH) (f1f dH)]),.s (dI (nb k) (nb k).length),.s (dI (aG t) (aM t))]).bind λ t=>(R3 [.agg (.ints .u8 (bC t)) 32]).bind λ t=>some (AV.tup [.s (.pl (.str (bO t))),.s (.pl (.int .i64 0))]):=by kernel_rfl
end
set_option maxRecDepth 8000
theorem Wb (s d:Nat):WY s d < aJ:=by
 unfold WY;exact HS (mP _)
theorem Wc (s d:Nat):Qk s d < aJ:=by
 unfold Qk;exact mP _
theorem aKV (a:List Int) (d:Nat):(zF a d).1.ok:=by
 unfold zF;cases (Nat.blt (vB a) aJ && LK (vB a) d)
 ·exact EK
 ·exact ⟨Wb _ _,Wc _ _,qY⟩
abbrev aDT:Cg:=Qn (Nat) AU (λ t=>nb t) (λ t=>(nb t).length) (Nat) rRP (λ t=>nb t) (λ t=>(nb t).length) (Int) nZ (λ t=>t) (Bool) F8 (λ t=>t) (RP) AY (λ t=>nb t.x) (λ t=>(nb t.x).length) (λ t=>nb t.y) (λ t=>(nb t.y).length) (λ t=>nb t.z) (λ t=>(nb t.z).length) (Nat) oN (λ t=>nb t) (λ t=>(nb t).length) (Nat) yY (λ t=>nb t) (λ t=>(nb t).length) (Nat) F7 (λ t=>nb t) (λ t=>(nb t).length) (Nat × Bool) IB (λ t=>nb t.fst) (λ t=>(nb t.fst).length) (λ t=>t.2) (Nat) DK (λ t=>nb t) (λ t=>(nb t).length)
theorem aKW:CfOk prog aDT.c:=gk <| aA Q5 <| aA Kz <| aA BC <| aA Mp <| aA Rs <| aA tX <| aA DU <| aA Mo <| aA Xk <| aA G7 <| aK
theorem AA {x:Option AV} (h:x=some (Il.enc (qB,false))):(AY []).bind (λ t=>some (AV.tup [CV.mix [SV.dat (TRow.ints i64 (nb t.x)) (nb t.x).length 1,SV.dat (TRow.ints i64 (nb t.y)) (nb t.y).length 1,SV.dat (TRow.ints i64 (nb t.z)) (nb t.z).length 1],CV.s (SV.pl (Pl.bool false))]))=x:=by
 rw [h]; rfl
theorem aTC (a:List Int) (d:Nat) (ha:fR a=true) (hd:d < aJ) (m fu:Nat) :
  Nb _ AU (λ t=>nb t) (λ t=>(nb t).length) _ rRP (λ t=>nb t) (λ t=>(nb t).length) _ nZ (λ t=>t) _ F8 (λ t=>t) _ AY (λ t=>nb t.x) (λ t=>(nb t.x).length) (λ t=>nb t.y) (λ t=>(nb t.y).length) (λ t=>nb t.z) (λ t=>(nb t.z).length) _ oN (λ t=>nb t) (λ t=>(nb t).length) _ yY (λ t=>nb t) (λ t=>(nb t).length) _ F7 (λ t=>nb t) (λ t=>(nb t).length) _ IB (λ t=>nb t.fst) (λ t=>(nb t.fst).length) (λ t=>t.2) _ DK (λ t=>nb t) (λ t=>(nb t).length) fu (Ex.exit 0) (Im (nb d) (nb d).length 32 m a)=some (Il.enc (zF a d)):=by
 obtain ⟨hl,hb⟩:=j3 ha;have h0:AU [.str (a.map b8)]=some (vB a):=by rw [LR (by rw [iA]; omega),XM hb]
 have hv:=GS a hb;rw [hl] at hv;have hvM:(nb (vB a)).length <= 1048576:=cK (yI (k:=32) hv) (by decide);have hP:(nb aJ).length <= 1048576:=by rw [TO]; decide
 have h2:=mJ (x:=vB a) (y:=aJ) hvM hP;refine (aDQ ..).trans ?_;refine aI h0 ?_;refine aI E4 ?_;refine aI h2 ?_;rw [BJ];unfold zF;cases hlt:Nat.blt (vB a) aJ
 ·have hge:¬ vB a < aJ:=λ h=>by rw [dL.mpr h] at hlt; cases hlt
  rw [aE (by omega),aB,pC,aD];exact AA rfl
 have hs:=dL.mp hlt;rw [aH (by omega),aD,jX];clear h0 h2 hlt hvM;generalize vB a=s at *;unfold LK;refine aI (zW (nbL hs)) ?_;cases Nat.beq (s%2) 1;rotate_left
 ·exact AA rfl
 rw [aD,lL,jX];have u1:Th s < aJ:=mP _;have u2:KO s < aJ:=mP _;have hV:rVR s d < aJ:=by unfold rVR; exact mP _
 have e1:yY [eN 1,eN (s*s%aJ)]=some (Th s):=nI qY (mP _);have e2:F7 [eN 1,eN (s*s%aJ)]=some (KO s):=vZ qY (mP _);have e5:=bJ hd (mP (Th s*Th s));have e6:=nI XS (mP (d*(Th s*Th s%aJ)));have e7:yY [eN ((0+aJ - d*(Th s*Th s%aJ)%aJ)%aJ),eN (KO s*KO s%aJ)]=some (rVR s d):=nI (mP _) (mP _);have e8:=bJ hV (mP (KO s*KO s));have e9:IB [eN 1,eN (rVR s d*(KO s*KO s%aJ)%aJ)]=some (WX s d):=Ra qY (mP _);have hI:(WX s d).1 < aJ:=by unfold WX; exact SP qY (mP _)
 have dX:WY s d=oW ((s+s)%aJ*((WX s d).1*KO s%aJ)%aJ):=rfl;have dY:Qk s d=Th s*((WX s d).1*((WX s d).1*KO s%aJ*rVR s d%aJ)%aJ)%aJ:=rfl;have hX:=Wb s d;have hY:=Wc s d;have f1:=bJ hs hs;have f2:=bJ u2 u2;have f3:=bJ u1 u1;generalize WY s d=X at *;generalize Qk s d=Y at *;generalize WX s d=I at *;generalize rVR s d=V at *;generalize Th s=U1 at *;generalize KO s=U2 at *;obtain ⟨i,ok⟩:=I;dsimp only at *;refine aI f1 ?_;refine aI e1 ?_;refine aI e2 ?_;refine aI f2 ?_;refine aI f3 ?_;refine aI e5 ?_;refine aI e6 ?_;refine aI e7 ?_;refine aI e8 ?_;refine aI e9 ?_;refine aI (bJ hI u2) ?_;refine aI (bJ (mP (i*U2)) hV) ?_;refine aI (bJ hI (mP (i*U2%aJ*V))) ?_;refine aI (vZ hs hs) ?_;refine aI (bJ (mP (s+s)) (mP (i*U2))) ?_;refine aI (zX (mP ((s+s)%aJ*(i*U2%aJ)))) ?_;rw [<-dX];refine aI (bJ u1 (mP (i*(i*U2%aJ*V%aJ)))) ?_;rw [<-dY];cases ok
 ·exact AA rfl
 rw [jW,aD,jX];refine aI (bJ hX hY) ?_;refine aI (zW (nbL (mP (X*Y)))) ?_;cases Nat.beq (X*Y%aJ%2) 1;rotate_left
 ·exact AA rfl
 rw [aD,lL,jX,Wk];cases Nat.beq Y 0
 ·rw [aD,lL,aB];show some (AV.tup [CV.mix [SV.dat (TRow.ints i64 (nb X)) (nb X).length 1,SV.dat (TRow.ints i64 (nb Y)) (nb Y).length 1,SV.dat (TRow.ints i64 [1]) 1 1],CV.s (SV.pl (Pl.bool true))])=some (AV.tup [CV.mix [SV.dat (TRow.ints i64 (nb X)) (nb X).length 1,SV.dat (TRow.ints i64 (nb Y)) (nb Y).length 1,SV.dat (TRow.ints i64 (nb 1)) (nb 1).length 1],CV.s (SV.pl (Pl.bool true))]);rw [show nb 1=[1] by decide]; rfl
 ·exact AA rfl
theorem aKX (a:List Int) (d:Nat) (ha:fR a=true) (hd:d < aJ) (m fu:Nat):∀ (e n i:Nat),i+e=32->e < n ->
  eS prog aDT fu Ti (Nb _ AU (λ t=>nb t) (λ t=>(nb t).length) _ rRP (λ t=>nb t) (λ t=>(nb t).length) _ nZ (λ t=>t) _ F8 (λ t=>t) _ AY (λ t=>nb t.x) (λ t=>(nb t.x).length) (λ t=>nb t.y) (λ t=>(nb t.y).length) (λ t=>nb t.z) (λ t=>(nb t.z).length) _ oN (λ t=>nb t) (λ t=>(nb t).length) _ yY (λ t=>nb t) (λ t=>(nb t).length) _ F7 (λ t=>nb t) (λ t=>(nb t).length) _ IB (λ t=>nb t.fst) (λ t=>(nb t.fst).length) (λ t=>t.2) _ DK (λ t=>nb t) (λ t=>(nb t).length) fu) n (some (Na (nb d) (nb d).length 32 (i:Int) a m (a.take i++List.replicate (32 - i) 0)))=some (Il.enc (zF a d)):=by
 obtain ⟨hl,hb⟩:=j3 ha;intro e
 induction e with
 | zero=>
  intro n i hi hn;obtain ⟨n,rfl⟩:=aP (by omega:n ≠ 0);have e:i=32:=by omega
  subst e;rw [aF,aDP,aH (by omega),aD,aR,i0,uQ,i8,fB (by omega)];exact aTC a d ha hd m fu
 | succ e ih=>
  intro n i hi hn;obtain ⟨n,rfl⟩:=aP (by omega:n ≠ 0);have h:=ih n (i+1) (by omega) (by omega);rw [aF,aDP,aE (by omega),aB,aE (by omega),aB,aE (by omega),aB,bE,bS,G6 a 32 i hl (by omega),bY (by omega) (by omega)];exact h
theorem aDU:CallOk prog 24 Il:=by
 refine aZ (fu:=λ _=>40) aKW Tryz.func24 ?_;intro args t ht;obtain ⟨a,d,rfl,ha,hd,rfl⟩:=aE5 (F:=zF) ht;refine (aTx ..).trans ?_;exact aKX a d ha hd 32 40 32 40 0 (by omega) (by omega)
theorem Zc {a:List Int} {d:Nat} (ha:fR a=true) (hd:d < aJ):aDO [lR a,eN d]=some (zF a d):=aUf zF ha hd
abbrev aDV:Cg:=Qo 
theorem aKY:CfOk prog aDV.c:=gk <| aK
theorem aKZ (a:List Int) (ha:fR a=true) (m fu:Nat):∀ (e n i:Nat),i+e=32->e < n ->
  eS prog aDV fu Tj (Tk fu) n (some (Nc 32 (i:Int) a m (a.take i++List.replicate (32 - i) 0)))=some (.str (a.map b8)):=by
 obtain ⟨hl,hb⟩:=j3 ha;intro e
 induction e with
 | zero=>
  intro n i hi hn;obtain ⟨n,rfl⟩:=aP (by omega:n ≠ 0);have e:i=32:=by omega
  subst e;rw [aF,aDR,aH (by omega),aD,aR,i0,uQ,i8,fB (by omega),aDS]
 | succ e ih=>
  intro n i hi hn;obtain ⟨n,rfl⟩:=aP (by omega:n ≠ 0);have h:=ih n (i+1) (by omega) (by omega);rw [aF,aDR,aE (by omega),aB,aE (by omega),aB,aE (by omega),aB,bE,bS,G6 a 32 i hl (by omega),bY (by omega) (by omega)];exact h
theorem Wd:CallOk prog 11 aOH:=by
 refine aZ (fu:=λ _=>40) aKY Tryz.func11 ?_;intro args t ht;obtain ⟨a,rfl,ha,rfl⟩:=nG (F:=λ a=>a.map b8) ht;refine (aTz ..).trans ?_;exact aKZ a ha 32 40 32 40 0 (by omega) (by omega)
theorem Qq {a:List Int} (h:fR a=true):WZ [lR a]=some (a.map b8):=xM (λ a=>a.map b8) h
abbrev aTD:Cg:=aOL (RP) YA (λ t=>nb t.x) (λ t=>(nb t.x).length) (λ t=>nb t.y) (λ t=>(nb t.y).length) (λ t=>nb t.z) (λ t=>(nb t.z).length) (List Int) P9 (λ t=>t)
theorem aK0:CfOk prog aTD.c:=gk <| aA aAu <| aA UI <| aK
theorem aK1:CallOk prog 25 aOI:=by
 refine i4 aK0 Tryz.func25 ?_;intro args t ht;obtain ⟨p,n,d,rfl,hp,hn,hc,hd,rfl⟩:=Lp (F:=Ql) (C:=λ n=>Nat.blt n lG) ht;refine (aTA ..).trans ?_;refine aI (Uj hp (dL.mp hc) hd) ?_;refine aI (RF (aAt p n d)) ?_;rfl
theorem aDW {p:RP} {n d:Nat} (h:p.ok) (hn:n < lG) (hd:d < aJ):aOJ [Ei p,eN n,eN d]=some (Ql p n d) :=
 YD Ql (λ n=>Nat.blt n lG) h (cK (dA (k:=64) hn) (by decide)) (dL.mpr hn) hd
abbrev aTE:Cg:=aOM (Nat) rRD (λ t=>nb t) (λ t=>(nb t).length) (RP × Bool) aDO (λ t=>nb t.fst.x) (λ t=>(nb t.fst.x).length) (λ t=>nb t.fst.y) (λ t=>(nb t.fst.y).length) (λ t=>nb t.fst.z) (λ t=>(nb t.fst.z).length) (λ t=>t.2) (List Int) aOJ (λ t=>t) (List UInt8) WZ (λ t=>t)
theorem aK2:CfOk prog aTE.c:=gk <| aA aZj <| aA aDU <| aA aK1 <| aA Wd <| aK
theorem aDX:Qm < aJ:=by decide
theorem Zd:CallOk prog 7 NZ:=by
 refine i4 aK2 Tryz.func7 ?_;intro args t ht;unfold NZ at ht;simp only at ht;split at ht
 ·rename_i k i b;obtain ⟨h1,h2⟩:=cC ht;subst h2;rw [aX,aX] at h1;obtain ⟨⟨c1,c2⟩,c3⟩:=h1;obtain ⟨x,rfl,rfl,_,ex⟩:=oY c1;rw [ex] at c2 ⊢;have hx:=dL.mp c2;have hp:=aKV b Qm;refine (aTB ..).trans ?_;refine aI aWz ?_;refine aI (Zc (d:=Qm) c3 aDX) ?_;have ht:=aDW (p:=(zF b Qm).1) hp hx aDX;unfold evR;generalize zF b Qm=p at *;obtain ⟨p,f⟩:=p;cases f
  ·rfl
  dsimp only at *;rw [jW,aD,aB,Wk];show cond (decide (b=nN)) (some _) (cond (Nat.beq x 0) (some _) _)=_;cases decide (b=nN)
  ·cases Nat.beq x 0
   ·refine aI ht ?_;refine aI (Qq (SW _)) ?_;rfl
   ·rfl
  ·rfl
 ·cases ht
theorem Tl {x:Nat} {b:List Int} (hx:x < lG) (hb:fR b=true):Wa [eN x,lR b]=some (Zb (evR x b)):=by
 show cond (Lm (nb x) (nb x).length && Nat.blt (vB (nb x)) lG && fR b) (some (Zb (evR (vB (nb x)) b))) none=_;rw [fY,nP (cK (dA (k:=64) hx) (by decide)),dL.mpr hx,hb]; rfl
theorem aDY {p c:Pt} {g h:CP.G} (hp:PT p g) (hc:PT c h) (b:Bool):PT (zD p c b) (cond b (CP.add (CP.add h h) g) (CP.add h h)):=by
 cases b
 ·exact Sq hc
 ·exact aQj (Sq hc) hp
theorem Ze {p c:RP} {g h:CP.G} (hp:RPT p g) (hc:RPT c h) (b:Bool):RPT (GU p ZE c b) (cond b (CP.add (CP.add h h) g) (CP.add h h)):=by
 cases b
 ·exact N4 hc hc
 ·exact N4 (N4 hc hc) hp
theorem Zf {p:Pt} {r:RP} {g:CP.G} (hp:PT p g) (hr:RPT r g):∀ (l:List Bool) (c:Pt) (d:RP) (h:CP.G),PT c h->RPT d h->∃ G,PT (l.foldl (zD p) c) G /\ RPT (l.foldl (GU r ZE) d) G:=by
 intro l
 induction l with
 | nil=>intro c d h hc hd; exact ⟨h,hc,hd⟩
 | cons b l ih=>intro c d h hc hd; exact ih _ _ _ (aDY hp hc b) (Ze hr hd b)
theorem aXO (p:Pt) (A:Nat):∀ (e:Nat) (c:Pt),PT c CP.zero->∃ c',PT c' CP.zero /\ (fT A (bl A+e)).foldl (zD p) c=(fT A (bl A)).foldl (zD p) c':=by
 intro e
 induction e with
 | zero=>intro c hc; exact ⟨c,hc,rfl⟩
 | succ e ih=>
  intro c hc;have hb:sG A (bl A+e)=false:=by
   unfold sG;have h1:A < 2 ^ (bl A+e):=cU (yC A).1 (iK (by omega) (by omega));rw [jJ h1]; rfl
  have hz:=Sq hc;rw [CP.add_zero] at hz;obtain ⟨c',q1,q2⟩:=ih (Gs c) hz;refine ⟨c',q1,?_⟩;show (fT A (bl A+e)).foldl (zD p) (zD p c (sG A (bl A+e)))=_;rw [hb];exact q2
theorem Tm {p:Pt} {r:RP} {g:CP.G} (hp:PT p g) (hr:RPT r g) {k:Nat} (hk:k < 2 ^ 253):lo 32 (fv (i5 (kT p (fT k 253)))%aJ)=lo 32 (kK (Bl (yJ r k ZE)).1 (Bl (yJ r k ZE)).2):=by
 have hl:=JR hk;obtain ⟨c,hc,e⟩:=aXO p k (253 - bl k) gZ VP;rw [show bl k+(253 - bl k)=253 by omega] at e;obtain ⟨G,a,b⟩:=Zf hp hr (fT k (bl k)) c qB CP.zero hc aE7;rw [<-e] at a;exact U0 a b
section
variable {q:Nat} [NeZero q]
theorem sg1 {a b r v y:Fin q} (h:v*(b*b)*(r*r)=1) (hy:y=a*(r*(r*b)*v)):y*y*(b*b)=a*a:=by
 have e:y*y*(b*b)=a*a*(v*(b*b)*(r*r))*(v*(b*b)*(r*r)):=by subst hy; clear h; grind (splits:=0) -lia -linarith
 rw [e,h];clear e h hy;grind (splits:=0) -lia -linarith
theorem sg2 {s b r v x:Fin q} (h:v*(b*b)*(r*r)=1) (hx:x*x=(s+s)*(r*b)*((s+s)*(r*b))):x*x*v=4*(s*s):=by
 have e:x*x*v=4*(s*s)*(v*(b*b)*(r*r)):=by rw [hx]; clear h hx; grind (splits:=0) -lia -linarith
 rw [e,h];clear e h hx;grind (splits:=0) -lia -linarith
theorem sg3 {d s v x y:Fin q} (hv:v=-(d*((1 - s*s)*(1 - s*s))) - (1+s*s)*(1+s*s)) (h1:y*y*((1+s*s)*(1+s*s))=(1 - s*s)*(1 - s*s)) (h2:x*x*v=4*(s*s)) :
  (y*y - x*x - (1+d*x*x*y*y))*(v*((1+s*s)*(1+s*s)))=0:=by
 have e:(y*y - x*x - (1+d*x*x*y*y))*(v*((1+s*s)*(1+s*s)))=y*y*((1+s*s)*(1+s*s))*v - x*x*v*((1+s*s)*(1+s*s)) - v*((1+s*s)*(1+s*s)) - d*(x*x*v)*(y*y*((1+s*s)*(1+s*s))):=by
  clear hv h1 h2; grind (splits:=0) -lia -linarith
 rw [e,h1,h2];clear e h1 h2;subst hv;grind (splits:=0) -lia -linarith
theorem sg4 {E w r:Fin q} (h:w*(r*r)=1) (h0:E*w=0):E=0:=by
 have e:E*w*(r*r)=E*(w*(r*r)):=by clear h h0; grind (splits:=0) -lia -linarith
 rw [h,h0,Ao,q9] at e;exact e.symm
theorem sg5 {a b:Fin q} (h:a - b=0):a=b:=by grind (splits:=0) -lia -linarith
theorem sg6 {s:Fin q}:s+s=2*s:=by grind (splits:=0) -lia -linarith
end
theorem aTF {a:Fin QP}:qD a=0 ↔ a=0:=by
 constructor
 ·intro h;rcases He a with e | e
  ·rw [<-e]; exact h
  ·rw [h] at e;have e2:-(-a)=a:=by grind (splits:=0) -lia -linarith
   rw [<-e2,<-e]; exact Lt
 ·rintro rfl; rfl
theorem aTG {s:Fin QP} (hb:(YR s).2=true):CP.On2 (YS s,paY s):=by
 have R:=wV 1 (paV s*((1+s*s)*(1+s*s)));have eR:EX 1 (paV s*((1+s*s)*(1+s*s)))=YR s:=rfl;rw [eR] at R;have hr:=R.yes hb;have hy:=sg1 (y:=paY s) hr rfl;have hx:=sg2 (x:=YS s) hr (da7 (He _) rfl);exact sg5 (sg4 hr (sg3 rfl hy hx))
theorem aTH {s:Fin QP} (hb:(YR s).2=true):YS s=0 ↔ s=0:=by
 have R:=wV 1 (paV s*((1+s*s)*(1+s*s)));have eR:EX 1 (paV s*((1+s*s)*(1+s*s)))=YR s:=rfl;rw [eR] at R;have hr:=R.yes hb;unfold YS;rw [aTF];generalize (YR s).1=r at *;constructor
 ·intro h;rcases Classical.em (s=0) with h0 | h0
  ·exact h0
  ·exfalso;have r0:r ≠ 0:=λ e=>by
    rw [e,jY,jY] at hr;exact CP.h1 hr.symm
   have b0:1+s*s ≠ 0:=λ e=>by
    rw [e,jY,jY,q9] at hr;exact CP.h1 hr.symm
   rw [sg6] at h;exact CP.mul_ne (CP.mul_ne CP.h2 h0) (CP.mul_ne r0 b0) h
 ·rintro rfl;rw [sg6,jY,q9]
theorem aDZ (s:Nat):fn (Th s)=1 - fn s*fn s:=by
 unfold Th;rw [bR,uI (mP _),oX,bR,bQ]
theorem Nd (s:Nat):fn (KO s)=1+fn s*fn s:=by
 unfold KO;rw [bR,qQ,oX,bR,bQ]
theorem aXP:fn dN=CP.d:=rfl
theorem aD0 (s:Nat):fn (rVR s dN)=paV (fn s):=by
 unfold rVR paV;rw [bR,uI (mP _),bR,uI (mP _),t7,bR,bQ,bR,bQ,aDZ,bR,bQ,Nd,tM,aXP]
theorem Tn (s:Nat):fn (WX s dN).1=(YR (fn s)).1 /\ (WX s dN).2=(YR (fn s)).2:=by
 have h:=aG9 (u:=1) (v:=rVR s dN*(KO s*KO s%aJ)%aJ) qY (mP _);rw [oX,bR,bQ,bR,bQ,aD0,Nd] at h;exact h
theorem aD1 (s:Nat):fn (WY s dN)=YS (fn s):=by
 unfold WY YS;rw [YL (mP _),bR,bQ,bR,qQ,bR,bQ,(Tn s).1,Nd]
theorem To (s:Nat):fn (Qk s dN)=paY (fn s):=by
 unfold Qk paY;rw [bR,bQ,bR,bQ,bR,bQ,bR,bQ,aDZ,(Tn s).1,Nd,aD0];congr 1;generalize (YR (fn s)).1=r;generalize paV (fn s)=v;generalize 1+fn s*fn s=b;exact (Fin.mul_assoc r (r*b) v).symm
theorem aD2 (s d:Nat):Qk s d < aJ:=by
 unfold Qk;exact mP _
theorem aTI (s d:Nat):WY s d < aJ:=by
 unfold WY;exact HS (mP _)
theorem aK3 {s:Nat} (hs:s < aJ):LK s dN=Jz (fe s):=by
 have ho:=cV s;have es:ph (fe s)=fn s:=B3 hs;have ey:Qk s dN=fv (Kk (fe s))%aJ:=by
  have h:fn (Qk s dN)=fn (fv (Kk (fe s))):=by
   rw [To,<-es];exact (O6 ho).symm
  have h:=tZ.1 h;rwa [aV (aD2 s dN)] at h
 have e1:Nat.beq (s%2) 1=oV (fe s):=by rw [Ox,es]; exact YK hs
 have e2:(WX s dN).2=(U6 (fe s)).2:=by rw [(Tn s).2,(O5 ho).2,es]
 have e3:Nat.beq (WY s dN*Qk s dN%aJ%2) 1=oV (pTF (fe s)):=by
  rw [Oy,bQ,aD1,To,Ox,<-es];unfold pTF;rw [bL,aHy ho,O6 ho]
 unfold LK Jz Gn;rw [e1,e2,e3,ey]
theorem aTJ {b:List Int} (hb:fR b=true):b=nN ↔ vB b=0:=by
 obtain ⟨hl,ho⟩:=j3 hb;constructor
 ·rintro rfl; decide
 ·intro h;have e:=Jb b ho;rw [hl,h] at e;rw [<-e]; decide
theorem Tp {k:Nat} {b:List Int} {r:Pt × Int} (hr:nM b=r):oO k b=cond (decide (r.2=0)) (cond (Nat.beq k 0) (nN,9) (lo 32 (fv (i5 (kT r.1 (fT k 253)))%aJ),0)) (nN,r.2):=by
 subst hr; rfl
theorem aD3 {k:Nat} {b:List Int} {p:RP × Bool} (hr:zF b Qm=p):evR k b=cond p.2 (cond (decide (b=nN) || Nat.beq k 0) (nN,9) (Ql p.1 k Qm,0)) (nN,8):=by
 subst hr; rfl
theorem aD4 {b:List Int} {p:Pt × Int} (hr:oL b=p):nM b=cond (decide (p.2=0) && vX p.1 gZ) (p.1,9) p:=by
 subst hr; rfl
theorem aD5 {g:CP.G}:sim g CP.zero ↔ e4 g:=by
 constructor
 ·intro k;obtain ⟨t,ht,e⟩:=aHq k;have:g=CP.neg t:=CP.neg_eq e.symm;rw [this]; exact aHp ht
 ·intro k;exact aWD (aHp k) (CP.add_neg g).symm
theorem aK4 {p:Pt} {g:CP.G} (hp:PT p g):vX p gZ=true ↔ e4 g:=(aWE hp VP).trans aD5
theorem aXQ:LN < 2 ^ 253:=by decide
theorem aZ7 {k:Nat} {b:List Int} {M:RP} {N:Pt} (h1:zF b Qm=(M,false)) (h2:oL b=(N,8)):evR k b=oO k b:=by
 have hr:=aD4 h2;dsimp only at hr;rw [aH (by decide:¬ (8:Int)=0),pC,aD] at hr;rw [aD3 h1,Tp hr];dsimp only;rw [aH (by decide:¬ (8:Int)=0),aD,aD]
theorem aZ8 {k:Nat} {b:List Int} {P:Pt} {R:RP} (h1:zF b Qm=(R,true)) (h2:oL b=(P,0)) (h3:vX P gZ=decide (b=nN)) (h4:lo 32 (fv (i5 (kT P (fT k 253)))%aJ)=Ql R k Qm):evR k b=oO k b:=by
 have hr:=aD4 h2;dsimp only at hr;rw [aE (rfl:(0:Int)=0),jX,h3] at hr;rw [aD3 h1];dsimp only;cases hd:decide (b=nN)
 ·rw [hd,aD] at hr;rw [Tp hr];dsimp only;rw [aE (rfl:(0:Int)=0),aB,aB,Cu,h4]
 ·rw [hd,aB] at hr;rw [Tp hr];dsimp only;rw [aH (by decide:¬ (9:Int)=0),aD,aB,Fp,aB]
theorem aD6 {s:Nat} (hs:s < aJ):LK s Qm=Jz (fe s):=aK3 hs
theorem aXR {s:Nat} (hs:s < aJ) (hg:Jz (fe s)=true) (b:List Int) (hz:b=nN ↔ s=0) {k:Nat} (hk:k < LN) :
  vX (ptP (fe s)) gZ=decide (b=nN) /\ lo 32 (fv (i5 (kT (ptP (fe s)) (fT k 253)))%aJ)=Ql ⟨WY s Qm,Qk s Qm,1⟩ k Qm:=by
 have ho:=cV s;have es:ph (fe s)=fn s:=B3 hs;have hi:(YR (fn s)).2=true /\ paY (fn s) ≠ 0:=by
  unfold Jz at hg;rw [aX,aX,aX,VH,VH,VH,(O5 ho).2,es] at hg;refine ⟨hg.2.1,λ e=>?_⟩;have h0:ph (Kk (fe s))=0:=by rw [O6 ho,es]; exact e
  have h1:fv (Kk (fe s))%aJ=0:=nJ.1 h0;have h2:=hg.2.2.2;unfold Gn at h2;rw [h1] at h2;cases h2
 clear hg;have on:=aTG hi.1;have px:ph (pXF (fe s))=YS (fn s):=by rw [aHy ho,es]
 have py:ph (Kk (fe s))=paY (fn s):=by rw [O6 ho,es]
 have P:PT (ptP (fe s)) ⟨(YS (fn s),paY (fn s)),on⟩:=by
  have h:=PY (O2 ho) (O3 ho) (by rw [px,py]; exact on);have e1:(⟨(ph (pXF (fe s)),ph (Kk (fe s))),by rw [px,py]; exact on⟩:CP.G)=⟨(YS (fn s),paY (fn s)),on⟩:=yW (by show (ph (pXF (fe s)),ph (Kk (fe s)))=_; rw [px,py]);rw [e1] at h;exact h
 have R:RPT ⟨WY s dN,Qk s dN,1⟩ ⟨(YS (fn s),paY (fn s)),on⟩:=by
  have ex:=aD1 s;have ey:=To s;have lx:=aTI s dN;have ly:=aD2 s dN;generalize WY s dN=X at *;generalize Qk s dN=Y at *;refine ⟨⟨lx,ly,qY⟩,?_,?_,?_⟩
  ·show fn 1 ≠ 0;rw [oX]; exact CP.h1
  ·show fn X=YS (fn s)*fn 1;rw [oX,Ao,ex]
  ·show fn Y=paY (fn s)*fn 1;rw [oX,Ao,ey]
 constructor
 ·rw [J6,decide_eq_true_iff,aK4 P,hz];show YS (fn s)=0 ∨ paY (fn s)=0 ↔ _;rw [aTH hi.1,nJ,aV hs];exact ⟨λ h=>h.resolve_right hi.2,.inl⟩
 ·exact Tm P R (fC hk aXQ)
theorem aK5 {k:Nat} {b:List Int} (hb:fR b=true) (hk:k < LN):evR k b=oO k b:=by
 have hz:=aTJ hb;cases hc:(Nat.blt (vB b) aJ && Jz (fe (vB b)))
 ·refine aZ7 (M:=qB) (N:=gZ) ?_ ?_
  ·unfold zF;cases hlt:Nat.blt (vB b) aJ
   ·rw [pC,aD]
   ·rw [hlt] at hc;rw [aD6 (dL.mp hlt),hc,aD]
  ·unfold oL;rw [hc,aD]
 ·have hc2:=hc;rw [aX] at hc2;have hs:=dL.mp hc2.1;obtain ⟨q1,q2⟩:=aXR hs hc2.2 b hz hk;refine aZ8 ?_ ?_ q1 q2
  ·unfold zF;rw [aD6 hs,hc,aB]
  ·unfold oL;rw [hc,aB]
end
end Go.Eng
