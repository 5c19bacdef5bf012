import Derived.Test.YthiilbllojllcaaGreatZT3
namespace Go.Eng
noncomputable section
open Go Go.Proofs
set_option linter.all false
section
variable (T0:Type) (R0:FA T0) (aG:T0->List Int)
def aX4:Cg:=⟨⟨cV [(201,⟨R0,λ t=>AV.agg (.ints .u64 (aG t)) 20⟩)],[],cX⟩,[]⟩
theorem bE2 (fu:Nat) (s:Str):aS prog Tryz.f200 (aX4 T0 R0 aG) fu [.str s]=bif decide (List.length s <= 1099511627776) then bif Nat.ble 32 (List.length s) then (R0 [.agg (.ints .u8 (List.take 32 (List.drop 0 (List.map sE s)))) 32]).bind λ t=>some (AV.agg (.ints .u64 (aG t)) 20) else none else none:=by kernel_rfl
end
section
variable (T0:Type) (R0:FA T0) (aG:T0->List Int) (T1:Type) (R1:FA T1) (aM:T1->List Int) (T2:Type) (R2:FA T2) (bE:T2->List Int)
def aX5:Cg:=⟨⟨cV [(150,⟨R0,λ t=>AV.agg (.ints .u64 (aG t)) 20⟩),(200,⟨R1,λ t=>AV.agg (.ints .u64 (aM t)) 20⟩),(202,⟨R2,λ t=>AV.agg (.ints .u64 (bE t)) 20⟩)],[],cX⟩,[]⟩
theorem bE3 (fu:Nat) (s:Str):aS prog Tryz.f183 (aX5 T0 R0 aG T1 R1 aM T2 R2 bE) fu [.str s]=bif !decide ((↑(List.length s):Int)=64) then (R0 []).bind λ t=>some (AV.tup [.s (.pl (.agg (.ints .u64 (aG t)) 20)),.s (.pl (.int .i64 4))]) else bif decide ((0:Int) <= 0 /\ (0:Int) <= 32 /\ 32 <= (↑(List.length s):Int)) then (R1 [.str (sl s 0 32)]).bind λ t=>bif decide ((0:Int) <= 32 /\ 32 <= (↑(List.length s):Int) /\ (↑(List.length s):Int) <= (↑(List.length s):Int)) then (R1 [.str (sl s 32 (↑(List.length s):Int))]).bind λ bY=>(R2 [.agg (.ints .u64 (aM t)) 20,.agg (.ints .u64 (aM bY)) 20]).bind λ t=>some (AV.tup [.s (.pl (.agg (.ints .u64 (bE t)) 20)),.s (.pl (.int .i64 0))]) else none else none:=by kernel_rfl
end
section
variable (T0:Type) (R0:FA T0)
def aMG:Cg:=⟨⟨cV [(181,⟨R0,λ t=>AV.bool (true)⟩)],[],cX⟩,[]⟩
theorem aTV (fu:Nat):aS prog Tryz.f149 (aMG T0 R0) fu []=(R0 []).bind λ t=>some (AV.bool true):=by kernel_rfl
end
section
variable (T0:Type) (R0:FA T0) (T1:Type) (R1:FA T1) (aM:T1->List Int) (T2:Type) (R2:FA T2) (bE:T2->List Int) (T3:Type) (R3:FA T3) (bS:T3->List Int) (T4:Type) (R4:FA T4) (dG:T4->Bool)
def aX6:Cg:=⟨⟨cV [(149,⟨R0,λ t=>AV.bool (true)⟩),(13,⟨R1,λ t=>AV.agg (.ints .u64 (aM t)) 20⟩),(14,⟨R2,λ t=>AV.agg (.ints .u8 (bE t)) 32⟩),(150,⟨R3,λ t=>AV.agg (.ints .u64 (bS t)) 20⟩),(132,⟨R4,λ t=>AV.bool (dG t)⟩)],[],cX⟩,[]⟩
theorem bE4 (fu:Nat):aS prog Tryz.f107 (aX6 T0 R0 T1 R1 aM T2 R2 bE T3 R3 bS T4 R4 dG) fu []=(R0 []).bind λ t=>(R1 []).bind λ t=>(R2 [.agg (.ints .u64 (aM t)) 20]).bind λ t=>(R3 []).bind λ bY=>(R2 [.agg (.ints .u64 (bS bY)) 20]).bind λ cJ=>bif decide (bE cJ=[0,0,0,0,0,0,0,0,0,0,0,0,0,0,0,0,0,0,0,0,0,0,0,0,0,0,0,0,0,0,0,0]) then bif decide ((bE t).getD 0 (0:Int)=226) then bif decide ((bE t).getD 1 (0:Int)=242) then bif decide ((bE t).getD 2 (0:Int)=174) then bif decide ((bE t).getD 3 (0:Int)=10) then (R1 []).bind λ t=>(R4 [.agg (.ints .u64 (aM t)) 20]).bind λ t=>some (AV.bool !dG t) else some (AV.bool false) else some (AV.bool false) else some (AV.bool false) else some (AV.bool false) else some (AV.bool false):=by kernel_rfl
end
set_option maxRecDepth 4000
abbrev bE5:Cg:=aX4 (Pt) aHS (λ t=>[↑t.x.a,↑t.x.b,↑t.x.c,↑t.x.d,↑t.x.e,↑t.y.a,↑t.y.b,↑t.y.c,↑t.y.d,↑t.y.e,↑t.z.a,↑t.z.b,↑t.z.c,↑t.z.d,↑t.z.e,↑t.t.a,↑t.t.b,↑t.t.c,↑t.t.d,↑t.t.e])
theorem aTW:CfOk prog bE5.c:=gk <| aA aHW <| aH
theorem aTX:CallOk prog 200 aHX:=by
 refine fO aTW Tryz.func200 ?_;intro args t ht;unfold aHX at ht;simp only at ht;split at ht
 ·rename_i s;obtain ⟨h1,h2⟩:=bO ht;have hl:=aT h1;subst h2;have ho:dP (s.map sE)=true:=by rw [dP,eZ,hl,S4]; rfl
  refine (bE2 ..).trans ?_;refine nC (aD (by omega)) ?_;refine nC (by rw [dJ]; omega) ?_;rw [gL,d9 (by rw [eZ]; omega)];refine aI (aEd ho) ?_;rfl
 ·cases ht
theorem WB {s:Str} (h:s.length=32):aWs [.str s]=some (o9 (sT (s.map sE))):=by
 show cond (Nat.beq s.length 32) (some (o9 (sT (s.map sE)))) none=_;rw [h]; rfl
theorem Gp (a:List Int):nG (o9 (sT a)):=TS (JQ a)
abbrev bE6:Cg:=aX5 (Pt) Bg (λ t=>[↑t.x.a,↑t.x.b,↑t.x.c,↑t.x.d,↑t.x.e,↑t.y.a,↑t.y.b,↑t.y.c,↑t.y.d,↑t.y.e,↑t.z.a,↑t.z.b,↑t.z.c,↑t.z.d,↑t.z.e,↑t.t.a,↑t.t.b,↑t.t.c,↑t.t.d,↑t.t.e]) (Pt) aWs (λ t=>[↑t.x.a,↑t.x.b,↑t.x.c,↑t.x.d,↑t.x.e,↑t.y.a,↑t.y.b,↑t.y.c,↑t.y.d,↑t.y.e,↑t.z.a,↑t.z.b,↑t.z.c,↑t.z.d,↑t.z.e,↑t.t.a,↑t.t.b,↑t.t.c,↑t.t.d,↑t.t.e]) (Pt) UW (λ t=>[↑t.x.a,↑t.x.b,↑t.x.c,↑t.x.d,↑t.x.e,↑t.y.a,↑t.y.b,↑t.y.c,↑t.y.d,↑t.y.e,↑t.z.a,↑t.z.b,↑t.z.c,↑t.z.d,↑t.z.e,↑t.t.a,↑t.t.b,↑t.t.c,↑t.t.d,↑t.t.e])
theorem aTY:CfOk prog bE6.c:=gk <| aA HP <| aA aTX <| aA aPW <| aH
theorem bE7:CallOk prog 183 bAW:=by
 refine fO aTY Tryz.func183 ?_;intro args t ht;unfold bAW at ht;simp only at ht;split at ht
 ·rename_i s;cases ht;refine (bE3 ..).trans ?_;show _=some (ePE (FT s));have em:FT s=cond (Nat.beq s.length 64) (Bh (o9 (sT ((s.take 32).map sE))) (o9 (sT ((s.drop 32).map sE))) Fd,0) (dM,4):=rfl;by_cases h:s.length=64
  ·have e1:sl s (0:Int) (32:Int)=s.take 32:=rfl;have e2:sl s (32:Int) ((s.length:Nat):Int)=s.drop 32:=by
    show List.take ((s.length:Int) - 32).toNat (List.drop 32 s)=_;exact d9 (by rw [lD]; omega)
   have r1:=WB (s:=s.take 32) (by rw [dH]; omega);have r2:=WB (s:=s.drop 32) (by rw [lD]; omega);have r3:=Mj (Gp ((s.take 32).map sE)) (Gp ((s.drop 32).map sE));rw [h,oH,aB] at em;rw [em];clear em;generalize o9 (sT ((s.take 32).map sE))=H1 at *;generalize o9 (sT ((s.drop 32).map sE))=H2 at *;rw [aD (by omega),iD,aE,e1,e2];refine nC (aD (by omega)) ?_;refine aI r1 ?_;refine nC (aD (by omega)) ?_;refine aI r2 ?_;refine aI r3 ?_;rfl
  ·have hb:Nat.beq s.length 64=false:=by
    cases e:Nat.beq s.length 64
    ·rfl
    ·exact absurd (aT e) h
   rw [hb,aE] at em;rw [em];have o:=tC;generalize dM=Np at *;rw [aJ (by omega),jB,aB];refine aI o ?_;rfl
 ·cases ht
theorem aTZ (s:Str):bGD [.str s]=some (FT s):=rfl
abbrev bbN:Nat:=53453403443306840533278073560698739391446669128918427283046925944918568268514
theorem aMH:Nat.beq (fv (cW i4)%aK) bbN=true:=by decide +kernel
theorem aT0:xF [eP i4]=some (lo 32 bbN):=by rw [rD DD,aT aMH]
theorem aMI:Nat.beq (fv (cW dM)%aK) 0=true:=by decide +kernel
theorem aT1:xF [eP dM]=some (lo 32 0):=by rw [rD sF,aT aMI]
theorem PF:pL i4 dM=false:=by decide +kernel
abbrev aT2:Cg:=aMG (PUnit) gM
theorem aMJ:CfOk prog aT2.c:=gk <| aA ZR <| aH
theorem ZO:CallOk prog 149 gE:=by
 refine fO aMJ Tryz.func149 ?_;intro args t ht;unfold gE at ht;simp only at ht;split at ht
 ·exact aTV ..
 ·cases ht
abbrev bE8:Cg:=aX6 (PUnit) gM (Pt) UV (λ t=>[↑t.x.a,↑t.x.b,↑t.x.c,↑t.x.d,↑t.x.e,↑t.y.a,↑t.y.b,↑t.y.c,↑t.y.d,↑t.y.e,↑t.z.a,↑t.z.b,↑t.z.c,↑t.z.d,↑t.z.e,↑t.t.a,↑t.t.b,↑t.t.c,↑t.t.d,↑t.t.e]) (List Int) xF (λ t=>t) (Pt) Bg (λ t=>[↑t.x.a,↑t.x.b,↑t.x.c,↑t.x.d,↑t.x.e,↑t.y.a,↑t.y.b,↑t.y.c,↑t.y.d,↑t.y.e,↑t.z.a,↑t.z.b,↑t.z.c,↑t.z.d,↑t.z.e,↑t.t.a,↑t.t.b,↑t.t.c,↑t.t.d,↑t.t.e]) (Bool) Py (λ t=>t)
theorem aT3:CfOk prog bE8.c:=gk <| aA ZO <| aA Tm <| aA y6 <| aA HP <| aA Kg <| aH
theorem ZP:CallOk prog 107 gE:=by
 refine fO aT3 Tryz.func107 ?_;intro args t ht;unfold gE at ht;simp only at ht;split at ht
 case h_2=>cases ht
 have o:=Gs;have b:=aT0;have n:=tC;have c:=aT1;have e:=HR DD;rw [PF] at e;generalize i4=Bp at *;generalize dM=Np at *;refine (bE4 ..).trans ?_;refine aI (show gM []=some () from rfl) ?_;refine aI o ?_;refine aI b ?_;refine aI n ?_;refine aI c ?_;refine nC (by decide) ?_;refine nC (by decide +kernel) ?_;refine nC (by decide +kernel) ?_;refine nC (by decide +kernel) ?_;refine nC (by decide +kernel) ?_;refine aI o ?_;refine aI e ?_;rfl
end
end Go.Eng
