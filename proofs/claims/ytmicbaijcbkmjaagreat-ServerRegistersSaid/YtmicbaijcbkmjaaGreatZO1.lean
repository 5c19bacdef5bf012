import Derived.Test.YtmicbaijcbkmjaaGreatZT7
import Derived.Test.YtmicbaijcbkmjaaGreatZX1
namespace Go.Eng
open Go.IntKind (u64 i64 u8)
noncomputable section
open Go Go.Proofs
set_option linter.all false
def oK (a:List Int):Pt × Int:=cond (Nat.blt (vB a) aJ && I7 (fe (vB a))) (ptP (fe (vB a)),0) (gZ,8)
def aEv:Summ:={ T:=Pt × Int,run:=wK oK,enc:=ePE }
def aEw:FA (Pt × Int):=aEv.run
def nL (a:List Int):Pt × Int:=cond (decide ((oK a).2=0) && vM (oK a).1 gZ) ((oK a).1,9) (oK a)
def UB:Summ:={ T:=Pt × Int,run:=wK nL,enc:=ePE }
def aEx:FA (Pt × Int):=UB.run
abbrev nM:List Int:=List.replicate 32 0
def oP (k:Nat) (b:List Int):List Int × Int :=
 cond (decide ((nL b).2=0)) (cond (Nat.beq k 0) (nM,9) (lo 32 (fv (i3 (kK (nL b).1 (fQ k 253)))%aJ),0)) (nM,(nL b).2)
def Wr:Summ where
 T:=List Int × Int
 run:=λ
  | [.c (.s (.pl (.agg (.ints .u64 a) 8))),.c (.s (.pl (.agg (.ints .u8 b) 32)))]=>cond (jO a && fR b) (some (oP (val a) b)) none
  | _=>none
 enc:=λ t=>.tup [.s (.pl (.agg (.ints .u8 t.1) 32)),.s (.pl (.int .i64 t.2))]
def CE:FA (List Int × Int):=Wr.run
def eSE (t:Str × Int):AV:=.tup [.s (.pl (.str t.1)),.s (.pl (.int .i64 t.2))]
def Ws:Summ:={ T:=Nat,run:=wK λ a=>vB a%LN,enc:=eW }
def Wt:FA Nat:=Ws.run
section
variable (T0:Type) (R0:FA T0) (aG:T0->List Int) (aM:T0->Int) (T1:Type) (R1:FA T1) (aN:T1->Bool)
def aO1:Cg:=⟨⟨dE [(70,⟨R0,λ t=>AV.tup [.s (.pl (.agg (.ints .u64 (aG t)) 20)),.s (.pl (.int .i64 (aM t)))]⟩),(71,⟨R1,λ t=>AV.bool (aN t)⟩)],[],dR⟩,[]⟩
theorem aTP (fu:Nat) (a:List Int):bB prog Tryz.f35 (aO1 T0 R0 aG aM T1 R1 aN) fu [.agg (.ints .u8 a) 32]=(R0 [.agg (.ints .u8 a) 32]).bind λ t=>bif decide (aM t=0) then (R1 [.agg (.ints .u64 (aG t)) 20]).bind λ dH=>bif aN dH then some (AV.tup [.s (.pl (.agg (.ints .u64 (aG t)) 20)),.s (.pl (.int .i64 9))]) else some (AV.tup [.s (.pl (.agg (.ints .u64 (aG t)) 20)),.s (.pl (.int .i64 (aM t)))]) else some (AV.tup [.s (.pl (.agg (.ints .u64 (aG t)) 20)),.s (.pl (.int .i64 (aM t)))]):=by kernel_rfl
end
section
variable (T0:Type) (R0:FA T0) (T1:Type) (R1:FA T1) (aN:T1->Str) (bI:T1->Int) (T2:Type) (R2:FA T2) (bC:T2->List Int) (T3:Type) (R3:FA T3) (bO:T3->List Int) (cI:T3->Int)
end
section
variable (T0:Type) (R0:FA T0) (aG:T0->Bool)
end
section
variable (T0:Type) (R0:FA T0) (aG:T0->Int) (T1:Type) (R1:FA T1) (aN:T1->List Int) (T2:Type) (R2:FA T2) (bC:T2->List Int) (bW:T2->Int) (T3:Type) (R3:FA T3) (bO:T3->List Int) (T4:Type) (R4:FA T4) (eV:T4->Bool)
end
section
variable (T0:Type) (R0:FA T0) (aG:T0->List Int) (aM:T0->Int)
end
section
variable (T0:Type) (R0:FA T0) (aG:T0->List Int) (aM:T0->Int) (T1:Type) (R1:FA T1) (aN:T1->Bool) (T2:Type) (R2:FA T2) (bC:T2->List Int) (T3:Type) (R3:FA T3) (bO:T3->List Int)
def aO2:Cg:=⟨⟨dE [(35,⟨R0,λ t=>AV.tup [.s (.pl (.agg (.ints .u64 (aG t)) 20)),.s (.pl (.int .i64 (aM t)))]⟩),(14,⟨R1,λ t=>AV.bool (aN t)⟩),(36,⟨R2,λ t=>AV.agg (.ints .u64 (bC t)) 20⟩),(37,⟨R3,λ t=>AV.agg (.ints .u8 (bO t)) 32⟩)],[],dR⟩,[]⟩
theorem aTQ (fu:Nat) (a b:List Int):bB prog Tryz.f19 (aO2 T0 R0 aG aM T1 R1 aN T2 R2 bC T3 R3 bO) fu [.agg (.ints .u64 a) 8,.agg (.ints .u8 b) 32]=(R0 [.agg (.ints .u8 b) 32]).bind λ t=>bif decide (aM t=0) then (R1 [.agg (.ints .u64 a) 8]).bind λ dH=>bif aN dH then some (AV.tup [.s (.pl (.agg (.ints .u8 [0,0,0,0,0,0,0,0,0,0,0,0,0,0,0,0,0,0,0,0,0,0,0,0,0,0,0,0,0,0,0,0]) 32)),.s (.pl (.int .i64 9))]) else bif !decide (aM t=0) then some (AV.tup [.s (.pl (.agg (.ints .u8 [0,0,0,0,0,0,0,0,0,0,0,0,0,0,0,0,0,0,0,0,0,0,0,0,0,0,0,0,0,0,0,0]) 32)),.s (.pl (.int .i64 (aM t)))]) else (R2 [.agg (.ints .u64 (aG t)) 20,.agg (.ints .u64 a) 8]).bind λ t=>(R3 [.agg (.ints .u64 (bC t)) 20]).bind λ t=>some (AV.tup [.s (.pl (.agg (.ints .u8 (bO t)) 32)),.s (.pl (.int .i64 0))]) else bif !decide (aM t=0) then some (AV.tup [.s (.pl (.agg (.ints .u8 [0,0,0,0,0,0,0,0,0,0,0,0,0,0,0,0,0,0,0,0,0,0,0,0,0,0,0,0,0,0,0,0]) 32)),.s (.pl (.int .i64 (aM t)))]) else (R2 [.agg (.ints .u64 (aG t)) 20,.agg (.ints .u64 a) 8]).bind λ t=>(R3 [.agg (.ints .u64 (bC t)) 20]).bind λ t=>some (AV.tup [.s (.pl (.agg (.ints .u8 (bO t)) 32)),.s (.pl (.int .i64 0))]):=by kernel_rfl
end
section
variable (T0:Type) (R0:FA T0) (aG:T0->List Int) (T1:Type) (R1:FA T1) (aN:T1->List UInt8) (T2:Type) (R2:FA T2) (bC:T2->List Int)
end
section
variable (T0:Type) (R0:FA T0) (aG:T0->Int) (T1:Type) (R1:FA T1) (aN:T1->List Int) (bI:T1->Int) (T2:Type) (R2:FA T2) (bC:T2->List Int) (T3:Type) (R3:FA T3) (bO:T3->List Int) (T4:Type) (R4:FA T4) (eV:T4->List UInt8)
end
section
variable (T0:Type) (R0:FA T0) (aG:T0->List Int) (aM:T0->Int) (T1:Type) (R1:FA T1) (aN:T1->List UInt8)
end
section
variable (T0:Type) (R0:FA T0) (aG:T0->List Int)
def Qz:Cg:=⟨⟨dE [(22,⟨R0,λ t=>AV.tup [.s (.pl (.agg (.ints .u64 (aG t)) 8)),.s (.pl (.int .i64 (0)))]⟩)],[],dR⟩,[(4,[1,2,3,9,10],[2,3])]⟩
def Nq (n3:Nat) (v9 fP:Int) (aQ bA:List Int) (iM:Nat) (cT:List Int):St:={ tm:=[(1,.s (.ptr 0 0 32)),(2,.s (.ptr 1 0 8)),(3,.s (.own 2 n3 1)),(9,.int .i64 v9),(10,.int .i64 fP)],hp:=[(0,{ ty:=23,n:=32,row:=Row.t (.ints .u8 aQ) }),(1,{ ty:=34,n:=8,row:=Row.t (.ints .u64 bA) }),(2,{ ty:=5,n:=iM,row:=Row.t (.ints .u8 cT) })],nx:=3,sz:=27 }
def UC:Code:=cM (bN [1,1,0,1,2] (bD Tryz.f6))
def aEy (fu:Nat):=lP prog (Qz T0 R0 aG) fu [1,1,0,1,2] (bD Tryz.f6) (fT prog Tryz.f6)
abbrev aTR (fu:Nat) (n3:Nat) (v9 fP:Int) (aQ bA:List Int) (iM:Nat) (cT:List Int):=eS prog (Qz T0 R0 aG) fu UC (aEy T0 R0 aG fu ) fu (some (Nq n3 v9 fP aQ bA iM cT))
theorem aTS (fu:Nat) (a:List Int):bB prog Tryz.f6 (Qz T0 R0 aG) fu [.agg (.ints .u8 a) 32]=aTR T0 R0 aG fu 32 32 0 a [0,0,0,0,0,0,0,0] 32 (List.replicate 32 0):=by kernel_rfl
def I8 (n3:Nat) (aQ:List Int) (dP:Nat) (bA:List Int):St:={ tm:=[(2,.s (.ptr 0 0 8)),(3,.s (.own 1 n3 1))],hp:=[(0,{ ty:=34,n:=8,row:=Row.t (.ints .u64 aQ) }),(1,{ ty:=5,n:=dP,row:=Row.t (.ints .u8 bA) })],nx:=2,sz:=27 }
theorem aEz {β:Type} (fu:Nat) (G:FG β) (H:FH β) (n3:Nat) (v9 fP:Int) (aQ bA:List Int) (iM:Nat) (cT:List Int):fI prog (Qz T0 R0 aG) fu UC G H (Nq n3 v9 fP aQ bA iM cT)=bif decide (fP < v9) then bif decide (0 <= fP /\ fP < 32) then bif decide (0 <= fP /\ fP < (n3:Int)) then G (some (Nq n3 v9 (i64.wrap (fP+1)) aQ bA iM (cT.set fP.toNat (aQ.getD (0+fP.toNat) 0)))) else none else none else H (Ex.exit 0) (some (I8 n3 bA iM cT)):=by kernel_rfl
theorem aEA (fu:Nat) (n3:Nat) (aQ:List Int) (dP:Nat) (bA:List Int):aEy T0 R0 aG fu  (Ex.exit 0) (I8 n3 aQ dP bA)=(R0 [.str (List.map b8 bA)]).bind λ t=>some (AV.agg (.ints .u64 (aG t)) 8):=by kernel_rfl
end
set_option maxRecDepth 4000
theorem Q0 {a:List Int} (h:Nat.blt (vB a) aJ=false):oK a=(gZ,8):=by
 unfold oK;rw [h]; rfl
theorem Wu {a:List Int} (h:Nat.blt (vB a) aJ=true):oK a=cond (!oX (fe (vB a)) && ((Ty (fe (vB a))).2 && (!oX (pTF (fe (vB a))) && !Gn (KQ (fe (vB a)))))) (ptP (fe (vB a)),0) (gZ,8):=by
 unfold oK;rw [h,jX]; rfl
theorem aEB:CallOk prog 70 aEv:=by
 refine i7 aM0 Tryz.func70 ?_;intro args t ht;obtain ⟨a,rfl,ha,rfl⟩:=nI (F:=oK) ht;refine (aV9 ..).trans ?_;show _=some (ePE (oK a));have r0:=Te ha;have ne:=Aj;cases hb:Nat.blt (vB a) aJ
 ·have e0:E8 a=(f0,7):=by unfold E8; rw [hb]; rfl
  rw [e0] at r0;rw [Q0 hb];generalize gZ=Np at *;refine aI r0 ?_;rw [aH (by decide:¬ ((7:Int)=0)),lL,aB];refine aI ne ?_;rfl
 ·have e0:E8 a=(fe (vB a),0):=by unfold E8; rw [hb]; rfl
  rw [e0] at r0;rw [Wu hb];clear e0 hb;have hs:cN (fe (vB a)):=cV _;generalize fe (vB a)=s at *;have r1:=Ds hs;have o1:cN (fe 1):=cV 1;have u1:=Tz hs;have u2:=AF hs;have uu:=aL u2 u2;have vv:=UA hs;have kB:=aEq hs;have kI:=Qy hs;have kx:=Nj hs;have ky:=Nk hs;have kt:=aEr hs;have r5:wI [eF (fe 1),eF (aO s s)]=some (pU1 s):=gP o1 (aL hs hs);have r6:uG [eF (fe 1),eF (aO s s)]=some (Ni s):=fN o1 (aL hs hs);have r7:=aZk (aL u1 u1);have r8:=tD (aL uO (aL u1 u1));have r9:wI [eF (cJ f0 (aO dF (aO (pU1 s) (pU1 s)))),eF (aO (Ni s) (Ni s))]=some (pVF s):=gP (cL tC) uu;have r10:=bF vv uu;have r11:LS [eF (fe 1),eF (aO (pVF s) (aO (Ni s) (Ni s)))]=some (Ty s):=It o1 kB;have r12:=bF kI u2;have r13:=bF kI (aL kI u2);have r14:=bF (aL kI (aL kI u2)) vv;have r15:=fN hs hs;have r16:=bF (cD hs hs) (aL kI u2);have r17:GJ [eF (aO (gC s s) (aO (Ty s).1 (Ni s)))]=some (Zx s):=AL (aL (cD hs hs) (aL kI u2));have r18:iC [eF (pU1 s),eF (aO (aO (Ty s).1 (aO (Ty s).1 (Ni s))) (pVF s))]=some (KQ s):=bF u1 (aL (aL kI (aL kI u2)) vv);have r19:iC [eF (Zx s),eF (KQ s)]=some (pTF s):=bF kx ky;have r20:=Ds kt;have r21:=aLM ky;have r22:=Vu kx ky o1 kt;have r23:=C6 (p:=⟨Zx s,KQ s,fe 1,pTF s⟩) ⟨kx,ky,o1,kt⟩;have ep:ptP s=⟨Zx s,KQ s,fe 1,pTF s⟩:=rfl;rw [ep];clear ep;have r4:=j4 hs;have r4u:=j4 u2;have r4w:=j4 u1;generalize gZ=Np at *;generalize hq1:oX (pTF s)=q1 at *;generalize hq2:Gn (KQ s)=q2 at *;generalize hq3:oX s=q3 at *;clear hq1 hq2 hq3;generalize pTF s=pt at *;generalize Zx s=px at *;generalize KQ s=py at *;generalize Ty s=I at *;generalize pVF s=v at *;generalize pU1 s=w1 at *;generalize Ni s=w2 at *;refine aI r0 ?_;rw [aE rfl,jW,aD];refine aI r1 ?_;cases q3
  ·rw [aD,lL,jX];refine aI (xT (n:=1) (by decide)) ?_;refine aI r4 ?_;refine aI r5 ?_;refine aI r6 ?_;refine aI r4u ?_;refine aI (show rCD []=some () from rfl) ?_;refine aI r4w ?_;refine aI r7 ?_;refine aI r8 ?_;refine aI r9 ?_;refine aI r10 ?_;refine aI r11 ?_;refine aI r12 ?_;refine aI r13 ?_;refine aI r14 ?_;refine aI r15 ?_;refine aI r16 ?_;refine aI r17 ?_;refine aI r18 ?_;refine aI r19 ?_;obtain ⟨I1,I2⟩:=I;cases I2
   ·refine GI rfl ?_;refine aI ne ?_;rfl
   ·rw [show (!(I1,true).2)=false from rfl,aD];refine aI r20 ?_;cases q1
    ·rw [aD];refine aI r21 ?_;cases q2
     ·rw [aD];refine aI r22 ?_;refine aI r23 ?_;rfl
     ·refine GI rfl ?_;refine aI ne ?_;rfl
    ·refine GI rfl ?_;refine aI ne ?_;rfl
  ·refine GI rfl ?_;refine aI ne ?_;rfl
theorem Zy {a:List Int} (h:fR a=true):aEw [lS a]=some (oK a):=xO oK h
theorem Wv (a:List Int):qF (oK a).1:=by
 cases hb:Nat.blt (vB a) aJ
 ·rw [Q0 hb]; exact EO
 ·rw [Wu hb];have hs:cN (fe (vB a)):=cV _;generalize (!oX (fe (vB a)) && ((Ty (fe (vB a))).2 && (!oX (pTF (fe (vB a))) && !Gn (KQ (fe (vB a))))))=b;cases b
  ·exact EO
  ·exact ⟨Nj hs,Nk hs,cV 1,aEr hs⟩
theorem Zz (a:List Int):(nL a).1=(oK a).1:=by
 unfold nL;cases (decide ((oK a).2=0) && vM (oK a).1 gZ) <;> rfl
theorem aEC (a:List Int):qF (nL a).1:=by rw [Zz]; exact Wv a
abbrev aTT:Cg:=aO1 (Pt × Int) aEw (λ t=>[↑t.fst.x.a,↑t.fst.x.b,↑t.fst.x.c,↑t.fst.x.d,↑t.fst.x.e,↑t.fst.y.a,↑t.fst.y.b,↑t.fst.y.c,↑t.fst.y.d,↑t.fst.y.e,↑t.fst.z.a,↑t.fst.z.b,↑t.fst.z.c,↑t.fst.z.d,↑t.fst.z.e,↑t.fst.t.a,↑t.fst.t.b,↑t.fst.t.c,↑t.fst.t.d,↑t.fst.t.e]) (λ t=>t.snd) (Bool) aBb (λ t=>t)
theorem aKK:CfOk prog aTT.c:=gk <| aA aEB <| aA Pa <| aK
theorem Q1:CallOk prog 35 UB:=by
 refine i7 aKK Tryz.func35 ?_;intro args t ht;obtain ⟨a,rfl,ha,rfl⟩:=nI (F:=nL) ht;refine (aTP ..).trans ?_;show _=some (ePE (nL a));have r0:=Zy ha;have r1:=Yn (Wv a);have e:nL a=cond (decide ((oK a).2=0) && vM (oK a).1 gZ) ((oK a).1,9) (oK a):=rfl;rw [e];clear e;refine aI r0 ?_;generalize vM (oK a).1 gZ=b at *;generalize oK a=r at *;obtain ⟨p,e⟩:=r;dsimp only at *;cases hd:decide (e=0)
 ·rfl
 ·rw [aB];refine aI r1 ?_;cases b
  ·rfl
  ·rfl
theorem Z0 {a:List Int} (h:fR a=true):aEx [lS a]=some (nL a):=xO nL h
set_option maxRecDepth 4000
theorem aED (k:Nat) (b:List Int):oP k b=cond (decide ((nL b).2=0)) (cond (Nat.beq k 0) (nM,9) (lo 32 (fv (i3 (kK (nL b).1 (fQ k 253)))%aJ),0)) (nM,(nL b).2):=rfl
abbrev aTU:Cg:=aO2 (Pt × Int) aEx (λ t=>[↑t.fst.x.a,↑t.fst.x.b,↑t.fst.x.c,↑t.fst.x.d,↑t.fst.x.e,↑t.fst.y.a,↑t.fst.y.b,↑t.fst.y.c,↑t.fst.y.d,↑t.fst.y.e,↑t.fst.z.a,↑t.fst.z.b,↑t.fst.z.c,↑t.fst.z.d,↑t.fst.z.e,↑t.fst.t.a,↑t.fst.t.b,↑t.fst.t.c,↑t.fst.t.d,↑t.fst.t.e]) (λ t=>t.snd) (Bool) Vz (λ t=>t) (Pt) MX (λ t=>[↑t.x.a,↑t.x.b,↑t.x.c,↑t.x.d,↑t.x.e,↑t.y.a,↑t.y.b,↑t.y.c,↑t.y.d,↑t.y.e,↑t.z.a,↑t.z.b,↑t.z.c,↑t.z.d,↑t.z.e,↑t.t.a,↑t.t.b,↑t.t.c,↑t.t.d,↑t.t.e]) (List Int) VQ (λ t=>t)
theorem aKL:CfOk prog aTU.c:=gk <| aA Q1 <| aA K1 <| aA Kl <| aA Km <| aK
theorem Nr:CallOk prog 19 Wr:=by
 refine i7 aKL Tryz.func19 ?_;intro args t ht;unfold Wr at ht;simp only at ht;split at ht
 ·rename_i a b;obtain ⟨h1,h2⟩:=cC ht;subst h2;rw [aX] at h1;obtain ⟨ha,hb⟩:=h1;refine (aTQ ..).trans ?_;show _=some (AV.tup [.s (.pl (.agg (.ints .u8 (oP (val a) b).1) 32)),.s (.pl (.int .i64 (oP (val a) b).2))]);have r:=Z0 hb;have hr:=aEC b;have z:Vz [W8 a]=some (Nat.beq (val a) 0):=vZ (λ a=>Nat.beq (val a) 0) ha;rw [aED];generalize nL b=R at *;obtain ⟨p,e⟩:=R;dsimp only at *;have t:=Ks hr ha;have y:=Sr (Ey hr (fQ (val a) 253));generalize kK p (fQ (val a) 253)=T at *;generalize lo 32 (fv (i3 T)%aJ)=L at *;refine aI r ?_;by_cases h:e=0
  ·subst h;rw [aE rfl,aB,aB];refine aI z ?_;cases Nat.beq (val a) 0
   ·rw [aD,aD,jW,aD];refine aI t ?_;refine aI y ?_;rfl
   ·rfl
  ·rw [aH h,aD,aD,lL,aB]; rfl
 ·cases ht
theorem Q2 {a b:List Int} (ha:jO a=true) (hb:fR b=true):CE [W8 a,lS b]=some (oP (val a) b):=by
 show cond (jO a && fR b) (some (oP (val a) b)) none=_;rw [ha,hb]; rfl
set_option maxRecDepth 4000
theorem Ww (R:List Int) (N i:Nat) (hN:R.length=N) (hi:i < N):(R.take i++List.replicate (N - i) 0).set i (R.getD i 0)=R.take (i+1)++List.replicate (N - (i+1)) 0:=by
 have e:R.take (i+1)=R.take i++[R.getD i 0]:=by
  rw [Hl,oD (by omega),fU,oD (by omega)]; rfl
 have hl:(R.take i).length=i:=by rw [dV]; omega
 rw [e,Eb _ _ (by rw [hl]; omega),hl,i0,show N - i=N - (i+1)+1 by omega,Fy,yS,lN]; rfl
abbrev aEE:Cg:=Qz (Nat) Vo (λ t=>cQ 8 t)
theorem aKM:CfOk prog aEE.c:=gk <| aA Ku <| aK
theorem Z1 {a:List Int} (ha:a.length=32) (z:List Int) (m fu:Nat) (K:Ex->St->Option AV):∀ (d n i:Nat),i+d=32->d < n ->
  eS prog aEE fu UC K n (some (Nq 32 32 (i:Int) a z m (a.take i++List.replicate (32 - i) 0)))=Ak K (.exit 0) (some (I8 32 z m a)):=by
 intro d
 induction d with
 | zero=>
  intro n i hi hn;obtain ⟨n,rfl⟩:=aP (by omega:n ≠ 0);have e:i=32:=by omega
  rw [aF,aEz,aH (by omega),aD,e,i0,uQ,i8,fB (by omega)]
 | succ d ih=>
  intro n i hi hn;obtain ⟨n,rfl⟩:=aP (by omega:n ≠ 0);have h:=ih n (i+1) (by omega) (by omega);have w1:i64.wrap ((i:Int)+1)=((i+1:Nat):Int):=bY (by omega) (by omega);rw [aF,aEz,aE (by omega),aB,aE (by omega),aB,aE (by omega),aB,w1,bE,bS,Ww a 32 i ha (by omega)];exact h
theorem Z2:CallOk prog 6 Ws:=by
 refine aZ (fu:=λ _=>40) aKM Tryz.func6 ?_;intro args t ht;obtain ⟨a,rfl,ha,rfl⟩:=nI (F:=λ a=>vB a%LN) ht;obtain ⟨la,ba⟩:=j3 ha;refine (aTS ..).trans ?_;refine (Z1 la [0,0,0,0,0,0,0,0] 32 40 _ 32 40 0 rfl (by decide)).trans ?_;rw [aR];refine (aEA ..).trans ?_;have w:=TE (s:=a.map b8) (by rw [iA]; omega);rw [YM ba] at w;refine aI w ?_;rfl
theorem UD {a:List Int} (h:fR a=true):Wt [lS a]=some (vB a%LN):=xO (λ a=>vB a%LN) h
end
end Go.Eng
