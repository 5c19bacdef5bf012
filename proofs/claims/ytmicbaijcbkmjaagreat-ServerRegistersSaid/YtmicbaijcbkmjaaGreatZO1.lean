import Derived.Test.YtmicbaijcbkmjaaGreatZT7
import Derived.Test.YtmicbaijcbkmjaaGreatZX1
namespace Go.Eng
open Go.IntKind (u64 i64 u8)
noncomputable section
open Go Go.Proofs
set_option linter.all false
def oL (a:List Int):Pt × Int:=cond (Nat.blt (vB a) aJ && Jz (fe (vB a))) (ptP (fe (vB a)),0) (gZ,8)
def aD7:Summ:={ T:=Pt × Int,run:=vV oL,enc:=ePE }
def aD8:FA (Pt × Int):=aD7.run
def nM (a:List Int):Pt × Int:=cond (decide ((oL a).2=0) && vX (oL a).1 gZ) ((oL a).1,9) (oL a)
def Tq:Summ:={ T:=Pt × Int,run:=vV nM,enc:=ePE }
def aD9:FA (Pt × Int):=Tq.run
abbrev nN:List Int:=List.replicate 32 0
def oO (k:Nat) (b:List Int):List Int × Int :=
 cond (decide ((nM b).2=0)) (cond (Nat.beq k 0) (nN,9) (lo 32 (fv (i5 (kT (nM b).1 (fT k 253)))%aJ),0)) (nN,(nM b).2)
def We:Summ where
 T:=List Int × Int
 run:=λ
  | [.c (.s (.pl (.agg (.ints .u64 a) 8))),.c (.s (.pl (.agg (.ints .u8 b) 32)))]=>cond (jO a && fR b) (some (oO (val a) b)) none
  | _=>none
 enc:=λ t=>.tup [.s (.pl (.agg (.ints .u8 t.1) 32)),.s (.pl (.int .i64 t.2))]
def CE:FA (List Int × Int):=We.run
def eSE (t:Str × Int):AV:=.tup [.s (.pl (.str t.1)),.s (.pl (.int .i64 t.2))]
def Wf:Summ:={ T:=Nat,run:=vV λ a=>vB a%LN,enc:=eW }
def Wg:FA Nat:=Wf.run
section
variable (T0:Type) (R0:FA T0) (aG:T0->List Int) (aM:T0->Int) (T1:Type) (R1:FA T1) (aN:T1->Bool)
def aON:Cg:=⟨⟨dD [(70,⟨R0,λ t=>AV.tup [.s (.pl (.agg (.ints .u64 (aG t)) 20)),.s (.pl (.int .i64 (aM t)))]⟩),(71,⟨R1,λ t=>AV.bool (aN t)⟩)],[],dS⟩,[]⟩
theorem aTK (fu:Nat) (a:List Int):bB prog Tryz.f35 (aON T0 R0 aG aM T1 R1 aN) fu [.agg (.ints .u8 a) 32]=(R0 [.agg (.ints .u8 a) 32]).bind λ t=>bif decide (aM t=0) then (R1 [.agg (.ints .u64 (aG t)) 20]).bind λ dH=>bif aN dH then some (AV.tup [.s (.pl (.agg (.ints .u64 (aG t)) 20)),.s (.pl (.int .i64 9))]) else some (AV.tup [.s (.pl (.agg (.ints .u64 (aG t)) 20)),.s (.pl (.int .i64 (aM t)))]) else some (AV.tup [.s (.pl (.agg (.ints .u64 (aG t)) 20)),.s (.pl (.int .i64 (aM t)))]):=by kernel_rfl
end
section
variable (T0:Type) (R0:FA T0) (T1:Type) (R1:FA T1) (aN:T1->Str) (bI:T1->Int) (T2:Type) (R2:FA T2) (bC:T2->List Int) (T3:Type) (R3:FA T3) (bO:T3->List Int) (cI:T3->Int)
end
section
variable (T0:Type) (R0:FA T0) (aG:T0->Bool)
end
section
variable (T0:Type) (R0:FA T0) (aG:T0->Int) (T1:Type) (R1:FA T1) (aN:T1->List Int) (T2:Type) (R2:FA T2) (bC:T2->List Int) (bW:T2->Int) (T3:Type) (R3:FA T3) (bO:T3->List Int) (T4:Type) (R4:FA T4) (eV:T4->Bool)
end
section
variable (T0:Type) (R0:FA T0) (aG:T0->List Int) (aM:T0->Int)
end
section
variable (T0:Type) (R0:FA T0) (aG:T0->List Int) (aM:T0->Int) (T1:Type) (R1:FA T1) (aN:T1->Bool) (T2:Type) (R2:FA T2) (bC:T2->List Int) (T3:Type) (R3:FA T3) (bO:T3->List Int)
def aOO:Cg:=⟨⟨dD [(35,⟨R0,λ t=>AV.tup [.s (.pl (.agg (.ints .u64 (aG t)) 20)),.s (.pl (.int .i64 (aM t)))]⟩),(14,⟨R1,λ t=>AV.bool (aN t)⟩),(36,⟨R2,λ t=>AV.agg (.ints .u64 (bC t)) 20⟩),(37,⟨R3,λ t=>AV.agg (.ints .u8 (bO t)) 32⟩)],[],dS⟩,[]⟩
theorem aTL (fu:Nat) (a b:List Int):bB prog Tryz.f19 (aOO T0 R0 aG aM T1 R1 aN T2 R2 bC T3 R3 bO) fu [.agg (.ints .u64 a) 8,.agg (.ints .u8 b) 32]=(R0 [.agg (.ints .u8 b) 32]).bind λ t=>bif decide (aM t=0) then (R1 [.agg (.ints .u64 a) 8]).bind λ dH=>bif aN dH then some (AV.tup [.s (.pl (.agg (.ints .u8 [0,0,0,0,0,0,0,0,0,0,0,0,0,0,0,0,0,0,0,0,0,0,0,0,0,0,0,0,0,0,0,0]) 32)),.s (.pl (.int .i64 9))]) else bif !decide (aM t=0) then some (AV.tup [.s (.pl (.agg (.ints .u8 [0,0,0,0,0,0,0,0,0,0,0,0,0,0,0,0,0,0,0,0,0,0,0,0,0,0,0,0,0,0,0,0]) 32)),.s (.pl (.int .i64 (aM t)))]) else (R2 [.agg (.ints .u64 (aG t)) 20,.agg (.ints .u64 a) 8]).bind λ t=>(R3 [.agg (.ints .u64 (bC t)) 20]).bind λ t=>some (AV.tup [.s (.pl (.agg (.ints .u8 (bO t)) 32)),.s (.pl (.int .i64 0))]) else bif !decide (aM t=0) then some (AV.tup [.s (.pl (.agg (.ints .u8 [0,0,0,0,0,0,0,0,0,0,0,0,0,0,0,0,0,0,0,0,0,0,0,0,0,0,0,0,0,0,0,0]) 32)),.s (.pl (.int .i64 (aM t)))]) else (R2 [.agg (.ints .u64 (aG t)) 20,.agg (.ints .u64 a) 8]).bind λ t=>(R3 [.agg (.ints .u64 (bC t)) 20]).bind λ t=>some (AV.tup [.s (.pl (.agg (.ints .u8 (bO t)) 32)),.s (.pl (.int .i64 0))]):=by kernel_rfl
end
section
variable (T0:Type) (R0:FA T0) (aG:T0->List Int) (T1:Type) (R1:FA T1) (aN:T1->List UInt8) (T2:Type) (R2:FA T2) (bC:T2->List Int)
end
section
variable (T0:Type) (R0:FA T0) (aG:T0->Int) (T1:Type) (R1:FA T1) (aN:T1->List Int) (bI:T1->Int) (T2:Type) (R2:FA T2) (bC:T2->List Int) (T3:Type) (R3:FA T3) (bO:T3->List Int) (T4:Type) (R4:FA T4) (eV:T4->List UInt8)
end
section
variable (T0:Type) (R0:FA T0) (aG:T0->List Int) (aM:T0->Int) (T1:Type) (R1:FA T1) (aN:T1->List UInt8)
end
section
variable (T0:Type) (R0:FA T0) (aG:T0->List Int)
def Qr:Cg:=⟨⟨dD [(22,⟨R0,λ t=>AV.tup [.s (.pl (.agg (.ints .u64 (aG t)) 8)),.s (.pl (.int .i64 (0)))]⟩)],[],dS⟩,[(4,[1,2,3,9,10],[2,3])]⟩
def Nf (n3:Nat) (v9 fP:Int) (aQ bA:List Int) (iM:Nat) (cT:List Int):St:={ tm:=[(1,.s (.ptr 0 0 32)),(2,.s (.ptr 1 0 8)),(3,.s (.own 2 n3 1)),(9,.int .i64 v9),(10,.int .i64 fP)],hp:=[(0,{ ty:=23,n:=32,row:=Row.t (.ints .u8 aQ) }),(1,{ ty:=34,n:=8,row:=Row.t (.ints .u64 bA) }),(2,{ ty:=5,n:=iM,row:=Row.t (.ints .u8 cT) })],nx:=3,sz:=27 }
def Tr:Code:=cM (bN [1,1,0,1,2] (bD Tryz.f6))
def aEa (fu:Nat):=lO prog (Qr T0 R0 aG) fu [1,1,0,1,2] (bD Tryz.f6) (fQ prog Tryz.f6)
abbrev aTM (fu:Nat) (n3:Nat) (v9 fP:Int) (aQ bA:List Int) (iM:Nat) (cT:List Int):=eS prog (Qr T0 R0 aG) fu Tr (aEa T0 R0 aG fu ) fu (some (Nf n3 v9 fP aQ bA iM cT))
theorem aTN (fu:Nat) (a:List Int):bB prog Tryz.f6 (Qr T0 R0 aG) fu [.agg (.ints .u8 a) 32]=aTM T0 R0 aG fu 32 32 0 a [0,0,0,0,0,0,0,0] 32 (List.replicate 32 0):=by kernel_rfl
def In (n3:Nat) (aQ:List Int) (dP:Nat) (bA:List Int):St:={ tm:=[(2,.s (.ptr 0 0 8)),(3,.s (.own 1 n3 1))],hp:=[(0,{ ty:=34,n:=8,row:=Row.t (.ints .u64 aQ) }),(1,{ ty:=5,n:=dP,row:=Row.t (.ints .u8 bA) })],nx:=2,sz:=27 }
theorem aEb {β:Type} (fu:Nat) (G:FG β) (H:FH β) (n3:Nat) (v9 fP:Int) (aQ bA:List Int) (iM:Nat) (cT:List Int):fI prog (Qr T0 R0 aG) fu Tr G H (Nf n3 v9 fP aQ bA iM cT)=bif decide (fP < v9) then bif decide (0 <= fP /\ fP < 32) then bif decide (0 <= fP /\ fP < (n3:Int)) then G (some (Nf n3 v9 (i64.wrap (fP+1)) aQ bA iM (cT.set fP.toNat (aQ.getD (0+fP.toNat) 0)))) else none else none else H (Ex.exit 0) (some (In n3 bA iM cT)):=by kernel_rfl
theorem aEc (fu:Nat) (n3:Nat) (aQ:List Int) (dP:Nat) (bA:List Int):aEa T0 R0 aG fu  (Ex.exit 0) (In n3 aQ dP bA)=(R0 [.str (List.map b8 bA)]).bind λ t=>some (AV.agg (.ints .u64 (aG t)) 8):=by kernel_rfl
end
set_option maxRecDepth 4000
theorem Qs {a:List Int} (h:Nat.blt (vB a) aJ=false):oL a=(gZ,8):=by
 unfold oL;rw [h]; rfl
theorem Wh {a:List Int} (h:Nat.blt (vB a) aJ=true):oL a=cond (!oV (fe (vB a)) && ((U6 (fe (vB a))).2 && (!oV (pTF (fe (vB a))) && !Gn (Kk (fe (vB a)))))) (ptP (fe (vB a)),0) (gZ,8):=by
 unfold oL;rw [h,jX]; rfl
theorem aEd:CallOk prog 70 aD7:=by
 refine i4 aK9 Tryz.func70 ?_;intro args t ht;obtain ⟨a,rfl,ha,rfl⟩:=nG (F:=oL) ht;refine (aTQ ..).trans ?_;show _=some (ePE (oL a));have r0:=TH ha;have ne:=Aj;cases hb:Nat.blt (vB a) aJ
 ·have e0:Es a=(f0,7):=by unfold Es; rw [hb]; rfl
  rw [e0] at r0;rw [Qs hb];generalize gZ=Np at *;refine aI r0 ?_;rw [aH (by decide:¬ ((7:Int)=0)),lL,aB];refine aI ne ?_;rfl
 ·have e0:Es a=(fe (vB a),0):=by unfold Es; rw [hb]; rfl
  rw [e0] at r0;rw [Wh hb];clear e0 hb;have hs:cN (fe (vB a)):=cV _;generalize fe (vB a)=s at *;have r1:=DN hs;have o1:cN (fe 1):=cV 1;have u1:=U7 hs;have u2:=Ak hs;have uu:=aL u2 u2;have vv:=U8 hs;have kB:=aHu hs;have kI:=SX hs;have kx:=O2 hs;have ky:=O3 hs;have kt:=aHv hs;have r5:vQ [eF (fe 1),eF (aO s s)]=some (pU1 s):=gP o1 (aL hs hs);have r6:tU [eF (fe 1),eF (aO s s)]=some (O1 s):=fM o1 (aL hs hs);have r7:=aXS (aL u1 u1);have r8:=sW (aL uN (aL u1 u1));have r9:vQ [eF (cJ f0 (aO dF (aO (pU1 s) (pU1 s)))),eF (aO (O1 s) (O1 s))]=some (pVF s):=gP (cL sV) uu;have r10:=bF vv uu;have r11:Kt [eF (fe 1),eF (aO (pVF s) (aO (O1 s) (O1 s)))]=some (U6 s):=IQ o1 kB;have r12:=bF kI u2;have r13:=bF kI (aL kI u2);have r14:=bF (aL kI (aL kI u2)) vv;have r15:=fM hs hs;have r16:=bF (cD hs hs) (aL kI u2);have r17:F6 [eF (aO (gC s s) (aO (U6 s).1 (O1 s)))]=some (pXF s):=zT (aL (cD hs hs) (aL kI u2));have r18:iB [eF (pU1 s),eF (aO (aO (U6 s).1 (aO (U6 s).1 (O1 s))) (pVF s))]=some (Kk s):=bF u1 (aL (aL kI (aL kI u2)) vv);have r19:iB [eF (pXF s),eF (Kk s)]=some (pTF s):=bF kx ky;have r20:=DN kt;have r21:=aJi ky;have r22:=YE kx ky o1 kt;have r23:=DQ (p:=⟨pXF s,Kk s,fe 1,pTF s⟩) ⟨kx,ky,o1,kt⟩;have ep:ptP s=⟨pXF s,Kk s,fe 1,pTF s⟩:=rfl;rw [ep];clear ep;have r4:=j0 hs;have r4u:=j0 u2;have r4w:=j0 u1;generalize gZ=Np at *;generalize hq1:oV (pTF s)=q1 at *;generalize hq2:Gn (Kk s)=q2 at *;generalize hq3:oV s=q3 at *;clear hq1 hq2 hq3;generalize pTF s=pt at *;generalize pXF s=px at *;generalize Kk s=py at *;generalize U6 s=I at *;generalize pVF s=v at *;generalize pU1 s=w1 at *;generalize O1 s=w2 at *;refine aI r0 ?_;rw [aE rfl,jW,aD];refine aI r1 ?_;cases q3
  ·rw [aD,lL,jX];refine aI (xJ (n:=1) (by decide)) ?_;refine aI r4 ?_;refine aI r5 ?_;refine aI r6 ?_;refine aI r4u ?_;refine aI (show rCD []=some () from rfl) ?_;refine aI r4w ?_;refine aI r7 ?_;refine aI r8 ?_;refine aI r9 ?_;refine aI r10 ?_;refine aI r11 ?_;refine aI r12 ?_;refine aI r13 ?_;refine aI r14 ?_;refine aI r15 ?_;refine aI r16 ?_;refine aI r17 ?_;refine aI r18 ?_;refine aI r19 ?_;obtain ⟨I1,I2⟩:=I;cases I2
   ·refine GK rfl ?_;refine aI ne ?_;rfl
   ·rw [show (!(I1,true).2)=false from rfl,aD];refine aI r20 ?_;cases q1
    ·rw [aD];refine aI r21 ?_;cases q2
     ·rw [aD];refine aI r22 ?_;refine aI r23 ?_;rfl
     ·refine GK rfl ?_;refine aI ne ?_;rfl
    ·refine GK rfl ?_;refine aI ne ?_;rfl
  ·refine GK rfl ?_;refine aI ne ?_;rfl
theorem Zg {a:List Int} (h:fR a=true):aD8 [lR a]=some (oL a):=xM oL h
theorem Wi (a:List Int):qF (oL a).1:=by
 cases hb:Nat.blt (vB a) aJ
 ·rw [Qs hb]; exact Ea
 ·rw [Wh hb];have hs:cN (fe (vB a)):=cV _;generalize (!oV (fe (vB a)) && ((U6 (fe (vB a))).2 && (!oV (pTF (fe (vB a))) && !Gn (Kk (fe (vB a))))))=b;cases b
  ·exact Ea
  ·exact ⟨O2 hs,O3 hs,cV 1,aHv hs⟩
theorem Zh (a:List Int):(nM a).1=(oL a).1:=by
 unfold nM;cases (decide ((oL a).2=0) && vX (oL a).1 gZ) <;> rfl
theorem aEe (a:List Int):qF (nM a).1:=by rw [Zh]; exact Wi a
abbrev aTO:Cg:=aON (Pt × Int) aD8 (λ t=>[↑t.fst.x.a,↑t.fst.x.b,↑t.fst.x.c,↑t.fst.x.d,↑t.fst.x.e,↑t.fst.y.a,↑t.fst.y.b,↑t.fst.y.c,↑t.fst.y.d,↑t.fst.y.e,↑t.fst.z.a,↑t.fst.z.b,↑t.fst.z.c,↑t.fst.z.d,↑t.fst.z.e,↑t.fst.t.a,↑t.fst.t.b,↑t.fst.t.c,↑t.fst.t.d,↑t.fst.t.e]) (λ t=>t.snd) (Bool) aCe (λ t=>t)
theorem aK6:CfOk prog aTO.c:=gk <| aA aEd <| aA QA <| aK
theorem Qt:CallOk prog 35 Tq:=by
 refine i4 aK6 Tryz.func35 ?_;intro args t ht;obtain ⟨a,rfl,ha,rfl⟩:=nG (F:=nM) ht;refine (aTK ..).trans ?_;show _=some (ePE (nM a));have r0:=Zg ha;have r1:=Y1 (Wi a);have e:nM a=cond (decide ((oL a).2=0) && vX (oL a).1 gZ) ((oL a).1,9) (oL a):=rfl;rw [e];clear e;refine aI r0 ?_;generalize vX (oL a).1 gZ=b at *;generalize oL a=r at *;obtain ⟨p,e⟩:=r;dsimp only at *;cases hd:decide (e=0)
 ·rfl
 ·rw [aB];refine aI r1 ?_;cases b
  ·rfl
  ·rfl
theorem Zi {a:List Int} (h:fR a=true):aD9 [lR a]=some (nM a):=xM nM h
set_option maxRecDepth 4000
theorem aEf (k:Nat) (b:List Int):oO k b=cond (decide ((nM b).2=0)) (cond (Nat.beq k 0) (nN,9) (lo 32 (fv (i5 (kT (nM b).1 (fT k 253)))%aJ),0)) (nN,(nM b).2):=rfl
abbrev aTP:Cg:=aOO (Pt × Int) aD9 (λ t=>[↑t.fst.x.a,↑t.fst.x.b,↑t.fst.x.c,↑t.fst.x.d,↑t.fst.x.e,↑t.fst.y.a,↑t.fst.y.b,↑t.fst.y.c,↑t.fst.y.d,↑t.fst.y.e,↑t.fst.z.a,↑t.fst.z.b,↑t.fst.z.c,↑t.fst.z.d,↑t.fst.z.e,↑t.fst.t.a,↑t.fst.t.b,↑t.fst.t.c,↑t.fst.t.d,↑t.fst.t.e]) (λ t=>t.snd) (Bool) Xa (λ t=>t) (Pt) O7 (λ t=>[↑t.x.a,↑t.x.b,↑t.x.c,↑t.x.d,↑t.x.e,↑t.y.a,↑t.y.b,↑t.y.c,↑t.y.d,↑t.y.e,↑t.z.a,↑t.z.b,↑t.z.c,↑t.z.d,↑t.z.e,↑t.t.a,↑t.t.b,↑t.t.c,↑t.t.d,↑t.t.e]) (List Int) Vl (λ t=>t)
theorem aK7:CfOk prog aTP.c:=gk <| aA Qt <| aA Le <| aA Kv <| aA Kw <| aK
theorem Ng:CallOk prog 19 We:=by
 refine i4 aK7 Tryz.func19 ?_;intro args t ht;unfold We at ht;simp only at ht;split at ht
 ·rename_i a b;obtain ⟨h1,h2⟩:=cC ht;subst h2;rw [aX] at h1;obtain ⟨ha,hb⟩:=h1;refine (aTL ..).trans ?_;show _=some (AV.tup [.s (.pl (.agg (.ints .u8 (oO (val a) b).1) 32)),.s (.pl (.int .i64 (oO (val a) b).2))]);have r:=Zi hb;have hr:=aEe b;have z:Xa [W8 a]=some (Nat.beq (val a) 0):=wO (λ a=>Nat.beq (val a) 0) ha;rw [aEf];generalize nM b=R at *;obtain ⟨p,e⟩:=R;dsimp only at *;have t:=Ly hr ha;have y:=TG (Fh hr (fT (val a) 253));generalize kT p (fT (val a) 253)=T at *;generalize lo 32 (fv (i5 T)%aJ)=L at *;refine aI r ?_;by_cases h:e=0
  ·subst h;rw [aE rfl,aB,aB];refine aI z ?_;cases Nat.beq (val a) 0
   ·rw [aD,aD,jW,aD];refine aI t ?_;refine aI y ?_;rfl
   ·rfl
  ·rw [aH h,aD,aD,lL,aB]; rfl
 ·cases ht
theorem Qu {a b:List Int} (ha:jO a=true) (hb:fR b=true):CE [W8 a,lR b]=some (oO (val a) b):=by
 show cond (jO a && fR b) (some (oO (val a) b)) none=_;rw [ha,hb]; rfl
set_option maxRecDepth 4000
theorem Wj (R:List Int) (N i:Nat) (hN:R.length=N) (hi:i < N):(R.take i++List.replicate (N - i) 0).set i (R.getD i 0)=R.take (i+1)++List.replicate (N - (i+1)) 0:=by
 have e:R.take (i+1)=R.take i++[R.getD i 0]:=by
  rw [Hl,oD (by omega),fU,oD (by omega)]; rfl
 have hl:(R.take i).length=i:=by rw [dV]; omega
 rw [e,Eb _ _ (by rw [hl]; omega),hl,i0,show N - i=N - (i+1)+1 by omega,Fy,yS,lN]; rfl
abbrev aEg:Cg:=Qr (Nat) VQ (λ t=>cQ 8 t)
theorem aK8:CfOk prog aEg.c:=gk <| aA Kl <| aK
theorem Zj {a:List Int} (ha:a.length=32) (z:List Int) (m fu:Nat) (K:Ex->St->Option AV):∀ (d n i:Nat),i+d=32->d < n ->
  eS prog aEg fu Tr K n (some (Nf 32 32 (i:Int) a z m (a.take i++List.replicate (32 - i) 0)))=zL K (.exit 0) (some (In 32 z m a)):=by
 intro d
 induction d with
 | zero=>
  intro n i hi hn;obtain ⟨n,rfl⟩:=aP (by omega:n ≠ 0);have e:i=32:=by omega
  rw [aF,aEb,aH (by omega),aD,e,i0,uQ,i8,fB (by omega)]
 | succ d ih=>
  intro n i hi hn;obtain ⟨n,rfl⟩:=aP (by omega:n ≠ 0);have h:=ih n (i+1) (by omega) (by omega);have w1:i64.wrap ((i:Int)+1)=((i+1:Nat):Int):=bY (by omega) (by omega);rw [aF,aEb,aE (by omega),aB,aE (by omega),aB,aE (by omega),aB,w1,bE,bS,Wj a 32 i ha (by omega)];exact h
theorem Zk:CallOk prog 6 Wf:=by
 refine aZ (fu:=λ _=>40) aK8 Tryz.func6 ?_;intro args t ht;obtain ⟨a,rfl,ha,rfl⟩:=nG (F:=λ a=>vB a%LN) ht;obtain ⟨la,ba⟩:=j3 ha;refine (aTN ..).trans ?_;refine (Zj la [0,0,0,0,0,0,0,0] 32 40 _ 32 40 0 rfl (by decide)).trans ?_;rw [aR];refine (aEc ..).trans ?_;have w:=Sv (s:=a.map b8) (by rw [iA]; omega);rw [XM ba] at w;refine aI w ?_;rfl
theorem Ts {a:List Int} (h:fR a=true):Wg [lR a]=some (vB a%LN):=xM (λ a=>vB a%LN) h
end
end Go.Eng
