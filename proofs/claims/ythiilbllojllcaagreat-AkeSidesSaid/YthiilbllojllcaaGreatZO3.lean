import Derived.Test.YthiilbllojllcaaGreatZO2
namespace Go.Eng
noncomputable section
open Go Go.Proofs
set_option linter.all false
def Xk:Summ where
 T:=List Int × Int
 run:=λ
  | [.c (.s (.rptr (.ints .u64 a) 0 8)),.c (.s (.rptr (.ints .u8 b) 0 32))]=>cond (gK a && dP b) (some (gO (val a) b)) none
  | _=>none
 enc:=λ t=>.tup [.s (.pl (.agg (.ints .u8 t.1) 32)),.s (.pl (.int .i64 t.2))]
def QL:FA (List Int × Int):=Xk.run
def Xl:Summ where
 T:=List Int × List Int
 run:=λ
  | [.c (.s (.pl (.agg (.ints .u64 a) 8))),.c (.s (.pl (.agg (.ints .u8 b) 32)))]=>some (a,b)
  | _=>none
 enc:=λ t=>.c (.s (.clor 52 [(.ints .u64 t.1,0,8),(.ints .u8 t.2,0,32)]))
def Xm:FA (List Int × List Int):=Xl.run
def pO:Str->List (List Int × Int)->Str × Int
 | s,[]=>(s,0)
 | s,r :: l=>cond (decide (r.2=0)) (pO (s++r.1.map b8) l) ([],r.2)
def pP (a1 b1 a2 b2 a3 b3:List Int):Str × Int:=pO [] [gO (val a1) b1,gO (val a2) b2,gO (val a3) b3]
def EM (a b:List Int):Bool:=gK a && dP b
def Xn:Summ where
 T:=Str × Int
 run:=λ
  | [.c (.mdat [.clor f1 [(.ints .u64 a1,0,8),(.ints .u8 b1,0,32)],.clor f2 [(.ints .u64 a2,0,8),(.ints .u8 b2,0,32)],.clor f3 [(.ints .u64 a3,0,8),(.ints .u8 b3,0,32)]])]=>
   cond (Nat.beq f1 52 && (Nat.beq f2 52 && Nat.beq f3 52) && (EM a1 b1 && (EM a2 b2 && EM a3 b3))) (some (pP a1 b1 a2 b2 a3 b3)) none
  | [.c (.mdat [])]=>some ([],0)
  | _=>none
 enc:=eSE
def Xo:FA (Str × Int):=Xn.run
def Ky:List SV->Option (List Int)
 | []=>some []
 | .pl (.int .u64 n) :: r=>match Ky r with
  | some l=>some (n :: l)
  | none=>none
 | _=>none
def IV:List SV->Option (List Int)
 | []=>some []
 | .pl (.int .u8 n) :: r=>match IV r with
  | some l=>some (n :: l)
  | none=>none
 | _=>none
def C0 {T:Type} (F:List Int->List Int->List Int->List Int->T):FA T
 | [.c (.mix l)]=>match Ky (l.take 8),Ky ((l.drop 8).take 8),IV ((l.drop 16).take 32),IV (l.drop 48) with
  | some e,some o,some s,some t=>cond (gK e && (gK o && (dP s && dP t))) (some (F e o s t)) none
  | _,_,_,_=>none
 | _=>none
def aA0:Summ:={ T:=Str × Int,run:=C0 λ e o s t=>pP e s e t o s,enc:=eSE }
def QM:FA (Str × Int):=aA0.run
def aA1:Summ:={ T:=Str × Int,run:=C0 λ e o s t=>pP e s o s e t,enc:=eSE }
def aA2:FA (Str × Int):=aA1.run
def Kz (s:Str):Str:=A7 [] s
def oR (s p:Str):Str:=(k9 (Kz s) [72,97,110,100,115,104,97,107,101,83,101,99,114,101,116] (hS p) 64).1
def xK (s p:Str):Str:=A7 (k9 (oR s p) [83,101,114,118,101,114,77,65,67] [] 64).1 (hS p)
def K0 (s p:Str):Str:=A7 (k9 (oR s p) [67,108,105,101,110,116,77,65,67] [] 64).1 (hS (p++xK s p))
def IW (s p:Str):Str:=(k9 (Kz s) [83,101,115,115,105,111,110,75,101,121] (hS p) 64).1
def QN:Summ where
 T:=Str × Str × Str
 run:=λ
  | [.c (.s (.pl (.str s))),.c (.s (.pl (.str p)))]=>cond (Nat.ble s.length 1099511000000 && Nat.ble p.length 1099511000000) (some (IW s p,xK s p,K0 s p)) none
  | _=>none
 enc:=λ t=>.agg (.strs [t.1,t.2.1,t.2.2]) 3
def aA3:FA (Str × Str × Str):=QN.run
def UD:Summ:={ T:=Nat,run:=A3 λ p=>fv (cW p)%aK,enc:=λ t=>pG (lo 32 t) }
def UE:FA Nat:=UD.run
section
variable (T0:Type) (R0:FA T0) (aG:T0->List Int) (aO:T0->Int)
def aWT:Cg:=⟨⟨cV [(52,⟨R0,λ t=>AV.tup [.s (.pl (.agg (.ints .u8 (aG t)) 32)),.s (.pl (.int .i64 (aO t)))]⟩)],[],cX⟩,[]⟩
theorem bBG (fu:Nat) (k b:List Int):aS prog Tryz.f21 (aWT T0 R0 aG aO) fu [.agg (.ints .u64 k) 8,.agg (.ints .u8 b) 32]=some (AV.s (SV.clor 52 [(.ints .u64 k,0,8),(.ints .u8 b,0,32)])):=by kernel_rfl
end
section
variable (T0:Type) (R0:FA T0) (aG:T0->List Int) (aO:T0->Int)
def aWU:Cg:=⟨⟨cV [(53,⟨R0,λ t=>AV.tup [.s (.pl (.agg (.ints .u8 (aG t)) 32)),.s (.pl (.int .i64 (aO t)))]⟩)],[],cX⟩,[]⟩
theorem bBH (fu:Nat) (k b:List Int):aS prog Tryz.f52 (aWU T0 R0 aG aO) fu [.s (.rptr (.ints .u64 k) 0 8),.s (.rptr (.ints .u8 b) 0 32)]=(R0 [.agg (.ints .u64 (List.take 8 (List.drop 0 k))) 8,.agg (.ints .u8 (List.take 32 (List.drop 0 b))) 32]).bind λ t=>some (AV.tup [.s (.pl (.agg (.ints .u8 (aG t)) 32)),.s (.pl (.int .i64 (aO t)))]):=by kernel_rfl
end
section
variable (T0:Type) (R0:FA T0) (aG:T0->List Int) (aO:T0->Int)
def aWV:Cg:=⟨⟨cV [(52,⟨R0,λ t=>AV.tup [.s (.pl (.agg (.ints .u8 (aG t)) 32)),.s (.pl (.int .i64 (aO t)))]⟩)],[],cX⟩,[(4,[4,9,10,11],[2,3,4]),(1000004,[5],[])]⟩
theorem bBI (fu:Nat) (k1 b1 k2 b2 k3 b3:List Int):aS prog Tryz.f20 (aWV T0 R0 aG aO) fu [.c (CV.mdat [SV.clor 52 [(.ints .u64 k1,0,8),(.ints .u8 b1,0,32)],SV.clor 52 [(.ints .u64 k2,0,8),(.ints .u8 b2,0,32)],SV.clor 52 [(.ints .u64 k3,0,8),(.ints .u8 b3,0,32)]])]=(R0 [.s (.rptr (.ints .u64 k1) 0 8),.s (.rptr (.ints .u8 b1) 0 32)]).bind λ t=>bif !decide (aO t=0) then some (AV.tup [.s (.pl (.str [])),.s (.pl (.int .i64 (aO t)))]) else bif decide (0+(List.map b8 (List.take 32 (List.drop 0 (aG t)))).length <= 9223372036854775807) then (R0 [.s (.rptr (.ints .u64 k2) 0 8),.s (.rptr (.ints .u8 b2) 0 32)]).bind λ bY=>bif !decide (aO bY=0) then some (AV.tup [.s (.pl (.str [])),.s (.pl (.int .i64 (aO bY)))]) else bif decide (List.length ([]++List.map b8 (List.take 32 (List.drop 0 (aG t))))+(List.map b8 (List.take 32 (List.drop 0 (aG bY)))).length <= 9223372036854775807) then (R0 [.s (.rptr (.ints .u64 k3) 0 8),.s (.rptr (.ints .u8 b3) 0 32)]).bind λ cJ=>bif !decide (aO cJ=0) then some (AV.tup [.s (.pl (.str [])),.s (.pl (.int .i64 (aO cJ)))]) else bif decide (List.length ([]++List.map b8 (List.take 32 (List.drop 0 (aG t)))++List.map b8 (List.take 32 (List.drop 0 (aG bY))))+(List.map b8 (List.take 32 (List.drop 0 (aG cJ)))).length <= 9223372036854775807) then some (AV.tup [.s (.pl (.str ([]++List.map b8 (List.take 32 (List.drop 0 (aG t)))++List.map b8 (List.take 32 (List.drop 0 (aG bY)))++List.map b8 (List.take 32 (List.drop 0 (aG cJ)))))),.s (.pl (.int .i64 0))]) else none else none else none:=by kernel_rfl
end
section
variable (T0:Type) (R0:FA T0) (aG:T0->List Int) (aO:T0->Int)
def aWW:Cg:=⟨⟨cV [(52,⟨R0,λ t=>AV.tup [.s (.pl (.agg (.ints .u8 (aG t)) 32)),.s (.pl (.int .i64 (aO t)))]⟩)],[],cX⟩,[(4,[4,9,10,11],[2,3,4]),(1000004,[5],[])]⟩
theorem bBJ (fu:Nat):aS prog Tryz.f20 (aWW T0 R0 aG aO) fu [.c (CV.mdat [])]=some (AV.tup [.s (.pl (.str [])),.s (.pl (.int .i64 0))]):=by kernel_rfl
end
set_option maxRecDepth 4000
theorem HX (k:Nat) (b:List Int):(gO k b).1.length=32:=by
 rw [K6];cases decide ((kJ b).2=0)
 ·rfl
 ·cases Nat.beq k 0
  ·exact fS _ _
  ·rfl
abbrev bBK:Cg:=aWU (List Int × Int) aI7 (λ t=>t.fst) (λ t=>t.snd)
theorem aQJ:CfOk prog bBK.c:=gk <| aA aBd <| aH
theorem UF:CallOk prog 52 Xk:=by
 refine fO aQJ Tryz.func52 ?_;intro args t ht;unfold Xk at ht;simp only at ht;split at ht
 ·rename_i a b;obtain ⟨h1,h2⟩:=bO ht;subst h2;rw [aW] at h1;obtain ⟨ha,hb⟩:=h1;have la:=lA ha;have lb:=(fW hb).1;have r:=UR ha hb;refine (bBH ..).trans ?_;rw [gL,gL,d9 (by omega),d9 (by omega)];refine aI r ?_;rfl
 ·cases ht
theorem HY {a b:List Int} (ha:gK a=true) (hb:dP b=true):QL [.s (.rptr (.ints .u64 a) 0 8),.s (.rptr (.ints .u8 b) 0 32)]=some (gO (val a) b):=by
 show cond (gK a && dP b) (some (gO (val a) b)) none=_;rw [ha,hb]; rfl
abbrev bBL:Cg:=aWT (List Int × Int) QL (λ t=>t.fst) (λ t=>t.snd)
theorem aQK:CfOk prog bBL.c:=gk <| aA UF <| aH
theorem UG:CallOk prog 21 Xl:=by
 refine fO aQK Tryz.func21 ?_;intro args t ht;unfold Xl at ht;simp only at ht;split at ht
 ·cases ht;exact bBG ..
 ·cases ht
theorem vG (a b:List Int):Xm [W8 a,pG b]=some (a,b):=rfl
theorem QO {a b:List Int} (h:EM a b=true):gK a=true /\ dP b=true:=by
 unfold EM at h;rwa [aW] at h
abbrev aIZ:Cg:=aWV (List Int × Int) QL (λ t=>t.fst) (λ t=>t.snd)
theorem aQL:CfOk prog aIZ.c:=gk <| aA UF <| aH
abbrev bBM:Cg:=aWW (List Int × Int) QL (λ t=>t.fst) (λ t=>t.snd)
theorem UH:CallOk prog 20 Xn:=by
 refine aZ (fu:=λ _=>5) aQL Tryz.func20 ?_;intro args t ht;unfold Xn at ht;simp only at ht;split at ht
 ·rename_i f1 a1 b1 f2 a2 b2 f3 a3 b3;obtain ⟨h1,h2⟩:=bO ht;subst h2;rw [aW,aW,aW,aW,aW] at h1;obtain ⟨⟨e1,e2,e3⟩,k1,k2,k3⟩:=h1;have e1:=aT e1;have e2:=aT e2;have e3:=aT e3;subst e1 e2 e3;obtain ⟨p1,q1⟩:=QO k1;obtain ⟨p2,q2⟩:=QO k2;obtain ⟨p3,q3⟩:=QO k3;have r1:=HY p1 q1;have r2:=HY p2 q2;have r3:=HY p3 q3;have l1:=HX (val a1) b1;have l2:=HX (val a2) b2;have l3:=HX (val a3) b3;have eT:pP a1 b1 a2 b2 a3 b3=pO [] [gO (val a1) b1,gO (val a2) b2,gO (val a3) b3]:=rfl;refine (bBI ..).trans ?_;show _=some (eSE (pP a1 b1 a2 b2 a3 b3));rw [eT];clear eT;have tk:∀ l:List Int,l.length=32->List.take 32 (List.drop 0 l)=l:=λ l h=>by rw [gL,d9 (by omega)]
  generalize gO (val a1) b1=E1 at *;generalize gO (val a2) b2=E2 at *;generalize gO (val a3) b3=E3 at *;obtain ⟨L1,x1⟩:=E1;obtain ⟨L2,x2⟩:=E2;obtain ⟨L3,x3⟩:=E3;dsimp only at l1 l2 l3;have d1:∀ (x:Int) (s:Str) (L:List Int) (r:List (List Int × Int)),pO s ((L,x) :: r)=cond (decide (x=0)) (pO (s++L.map b8) r) ([],x):=λ _ _ _ _=>rfl;refine aI r1 ?_;dsimp only;rw [d1,tk L1 l1];by_cases h1:x1=0
  ·rw [aD h1,iD,aE,aB];refine nC (aD (by rw [eZ]; omega)) ?_;refine aI r2 ?_;dsimp only;rw [d1,tk L2 l2];by_cases h2:x2=0
   ·rw [aD h2,iD,aE,aB];refine nC (aD (by rw [lF,eZ,eZ]; omega)) ?_;refine aI r3 ?_;dsimp only;rw [d1,tk L3 l3];by_cases h3:x3=0
    ·rw [aD h3,iD,aE,aB];refine nC (aD (by rw [lF,cD,eZ,eZ,eZ]; omega)) ?_;rfl
    ·rw [aJ h3,jB,aB,aE]; rfl
   ·rw [aJ h2,jB,aB,aE]; rfl
  ·rw [aJ h1,jB,aB,aE]; rfl
 ·cases ht;have:aIZ=bBM:=rfl;rw [this];exact bBJ ..
 ·cases ht
theorem OA {a1 b1 a2 b2 a3 b3:List Int} (h1:EM a1 b1=true) (h2:EM a2 b2=true) (h3:EM a3 b3=true) :
  Xo [.c (.mdat [.clor 52 [(.ints .u64 a1,0,8),(.ints .u8 b1,0,32)],.clor 52 [(.ints .u64 a2,0,8),(.ints .u8 b2,0,32)],.clor 52 [(.ints .u64 a3,0,8),(.ints .u8 b3,0,32)]])]=some (pP a1 b1 a2 b2 a3 b3):=by
 show cond (Nat.beq 52 52 && (Nat.beq 52 52 && Nat.beq 52 52) && (EM a1 b1 && (EM a2 b2 && EM a3 b3))) (some (pP a1 b1 a2 b2 a3 b3)) none=_;rw [h1,h2,h3,oH]; rfl
section
variable (T0:Type) (R0:FA T0) (aG aO:T0->List Int) (T1:Type) (R1:FA T1) (aM:T1->Str) (bK:T1->Int)
def aWX:Cg:=⟨⟨cV [(21,⟨R0,λ t=>AV.s (SV.clor 52 [(.ints .u64 (aG t),0,8),(.ints .u8 (aO t),0,32)])⟩),(20,⟨R1,λ t=>AV.tup [.s (.pl (.str (aM t))),.s (.pl (.int .i64 (bK t)))]⟩)],[],cX⟩,[]⟩
theorem bBN (fu:Nat) (e0 e1 e2 e3 e4 e5 e6 e7 o0 o1 o2 o3 o4 o5 o6 o7 s0 s1 s2 s3 s4 s5 s6 s7 s8 s9 s10 s11 s12 s13 s14 s15 s16 s17 s18 s19 s20 s21 s22 s23 s24 s25 s26 s27 s28 s29 s30 s31 t0 t1 t2 t3 t4 t5 t6 t7 t8 t9 t10 t11 t12 t13 t14 t15 t16 t17 t18 t19 t20 t21 t22 t23 t24 t25 t26 t27 t28 t29 t30 t31:Int):aS prog Tryz.f8 (aWX T0 R0 aG aO T1 R1 aM bK) fu [.c (.mix (let y:=let y:=let y:=let y:=[.pl (.int .u8 t27),.pl (.int .u8 t28),.pl (.int .u8 t29),.pl (.int .u8 t30),.pl (.int .u8 t31)]; SV.pl (.int .u8 t22) :: SV.pl (.int .u8 t23) :: SV.pl (.int .u8 t24) :: SV.pl (.int .u8 t25) :: SV.pl (.int .u8 t26) :: y; let y:=SV.pl (.int .u8 t17) :: SV.pl (.int .u8 t18) :: SV.pl (.int .u8 t19) :: SV.pl (.int .u8 t20) :: SV.pl (.int .u8 t21) :: y; SV.pl (.int .u8 t12) :: SV.pl (.int .u8 t13) :: SV.pl (.int .u8 t14) :: SV.pl (.int .u8 t15) :: SV.pl (.int .u8 t16) :: y; let y:=let y:=SV.pl (.int .u8 t7) :: SV.pl (.int .u8 t8) :: SV.pl (.int .u8 t9) :: SV.pl (.int .u8 t10) :: SV.pl (.int .u8 t11) :: y; SV.pl (.int .u8 t2) :: SV.pl (.int .u8 t3) :: SV.pl (.int .u8 t4) :: SV.pl (.int .u8 t5) :: SV.pl (.int .u8 t6) :: y; let y:=SV.pl (.int .u8 s29) :: SV.pl (.int .u8 s30) :: SV.pl (.int .u8 s31) :: SV.pl (.int .u8 t0) :: SV.pl (.int .u8 t1) :: y; SV.pl (.int .u8 s24) :: SV.pl (.int .u8 s25) :: SV.pl (.int .u8 s26) :: SV.pl (.int .u8 s27) :: SV.pl (.int .u8 s28) :: y; let y:=let y:=let y:=SV.pl (.int .u8 s19) :: SV.pl (.int .u8 s20) :: SV.pl (.int .u8 s21) :: SV.pl (.int .u8 s22) :: SV.pl (.int .u8 s23) :: y; SV.pl (.int .u8 s14) :: SV.pl (.int .u8 s15) :: SV.pl (.int .u8 s16) :: SV.pl (.int .u8 s17) :: SV.pl (.int .u8 s18) :: y; let y:=SV.pl (.int .u8 s9) :: SV.pl (.int .u8 s10) :: SV.pl (.int .u8 s11) :: SV.pl (.int .u8 s12) :: SV.pl (.int .u8 s13) :: y; SV.pl (.int .u8 s4) :: SV.pl (.int .u8 s5) :: SV.pl (.int .u8 s6) :: SV.pl (.int .u8 s7) :: SV.pl (.int .u8 s8) :: y; let y:=let y:=SV.pl (.int .u64 o7) :: SV.pl (.int .u8 s0) :: SV.pl (.int .u8 s1) :: SV.pl (.int .u8 s2) :: SV.pl (.int .u8 s3) :: y; SV.pl (.int .u64 o2) :: SV.pl (.int .u64 o3) :: SV.pl (.int .u64 o4) :: SV.pl (.int .u64 o5) :: SV.pl (.int .u64 o6) :: y; let y:=SV.pl (.int .u64 e5) :: SV.pl (.int .u64 e6) :: SV.pl (.int .u64 e7) :: SV.pl (.int .u64 o0) :: SV.pl (.int .u64 o1) :: y; SV.pl (.int .u64 e0) :: SV.pl (.int .u64 e1) :: SV.pl (.int .u64 e2) :: SV.pl (.int .u64 e3) :: SV.pl (.int .u64 e4) :: y))]=(R0 [aU [e0,e1,e2,e3,e4,e5,e6,e7] 8,.agg (.ints .u8 [s0,s1,s2,s3,s4,s5,s6,s7,s8,s9,s10,s11,s12,s13,s14,s15,s16,s17,s18,s19,s20,s21,s22,s23,s24,s25,s26,s27,s28,s29,s30,s31]) 32]).bind λ t=>(R0 [aU [e0,e1,e2,e3,e4,e5,e6,e7] 8,.agg (.ints .u8 [t0,t1,t2,t3,t4,t5,t6,t7,t8,t9,t10,t11,t12,t13,t14,t15,t16,t17,t18,t19,t20,t21,t22,t23,t24,t25,t26,t27,t28,t29,t30,t31]) 32]).bind λ bY=>(R0 [aU [o0,o1,o2,o3,o4,o5,o6,o7] 8,.agg (.ints .u8 [s0,s1,s2,s3,s4,s5,s6,s7,s8,s9,s10,s11,s12,s13,s14,s15,s16,s17,s18,s19,s20,s21,s22,s23,s24,s25,s26,s27,s28,s29,s30,s31]) 32]).bind λ cJ=>(R1 [.c (CV.mdat [SV.clor 52 [(.ints .u64 (aG t),0,8),(.ints .u8 (aO t),0,32)],SV.clor 52 [(.ints .u64 (aG bY),0,8),(.ints .u8 (aO bY),0,32)],SV.clor 52 [(.ints .u64 (aG cJ),0,8),(.ints .u8 (aO cJ),0,32)]])]).bind λ t=>some (AV.tup [.s (.pl (.str (aM t))),.s (.pl (.int .i64 (bK t)))]):=by kernel_rfl
end
section
variable (T0:Type) (R0:FA T0) (aG aO:T0->List Int) (T1:Type) (R1:FA T1) (aM:T1->Str) (bK:T1->Int)
def aWY:Cg:=⟨⟨cV [(21,⟨R0,λ t=>AV.s (SV.clor 52 [(.ints .u64 (aG t),0,8),(.ints .u8 (aO t),0,32)])⟩),(20,⟨R1,λ t=>AV.tup [.s (.pl (.str (aM t))),.s (.pl (.int .i64 (bK t)))]⟩)],[],cX⟩,[]⟩
theorem bBO (fu:Nat) (e0 e1 e2 e3 e4 e5 e6 e7 o0 o1 o2 o3 o4 o5 o6 o7 s0 s1 s2 s3 s4 s5 s6 s7 s8 s9 s10 s11 s12 s13 s14 s15 s16 s17 s18 s19 s20 s21 s22 s23 s24 s25 s26 s27 s28 s29 s30 s31 t0 t1 t2 t3 t4 t5 t6 t7 t8 t9 t10 t11 t12 t13 t14 t15 t16 t17 t18 t19 t20 t21 t22 t23 t24 t25 t26 t27 t28 t29 t30 t31:Int):aS prog Tryz.f10 (aWY T0 R0 aG aO T1 R1 aM bK) fu [.c (.mix (let y:=let y:=let y:=let y:=[.pl (.int .u8 t27),.pl (.int .u8 t28),.pl (.int .u8 t29),.pl (.int .u8 t30),.pl (.int .u8 t31)]; SV.pl (.int .u8 t22) :: SV.pl (.int .u8 t23) :: SV.pl (.int .u8 t24) :: SV.pl (.int .u8 t25) :: SV.pl (.int .u8 t26) :: y; let y:=SV.pl (.int .u8 t17) :: SV.pl (.int .u8 t18) :: SV.pl (.int .u8 t19) :: SV.pl (.int .u8 t20) :: SV.pl (.int .u8 t21) :: y; SV.pl (.int .u8 t12) :: SV.pl (.int .u8 t13) :: SV.pl (.int .u8 t14) :: SV.pl (.int .u8 t15) :: SV.pl (.int .u8 t16) :: y; let y:=let y:=SV.pl (.int .u8 t7) :: SV.pl (.int .u8 t8) :: SV.pl (.int .u8 t9) :: SV.pl (.int .u8 t10) :: SV.pl (.int .u8 t11) :: y; SV.pl (.int .u8 t2) :: SV.pl (.int .u8 t3) :: SV.pl (.int .u8 t4) :: SV.pl (.int .u8 t5) :: SV.pl (.int .u8 t6) :: y; let y:=SV.pl (.int .u8 s29) :: SV.pl (.int .u8 s30) :: SV.pl (.int .u8 s31) :: SV.pl (.int .u8 t0) :: SV.pl (.int .u8 t1) :: y; SV.pl (.int .u8 s24) :: SV.pl (.int .u8 s25) :: SV.pl (.int .u8 s26) :: SV.pl (.int .u8 s27) :: SV.pl (.int .u8 s28) :: y; let y:=let y:=let y:=SV.pl (.int .u8 s19) :: SV.pl (.int .u8 s20) :: SV.pl (.int .u8 s21) :: SV.pl (.int .u8 s22) :: SV.pl (.int .u8 s23) :: y; SV.pl (.int .u8 s14) :: SV.pl (.int .u8 s15) :: SV.pl (.int .u8 s16) :: SV.pl (.int .u8 s17) :: SV.pl (.int .u8 s18) :: y; let y:=SV.pl (.int .u8 s9) :: SV.pl (.int .u8 s10) :: SV.pl (.int .u8 s11) :: SV.pl (.int .u8 s12) :: SV.pl (.int .u8 s13) :: y; SV.pl (.int .u8 s4) :: SV.pl (.int .u8 s5) :: SV.pl (.int .u8 s6) :: SV.pl (.int .u8 s7) :: SV.pl (.int .u8 s8) :: y; let y:=let y:=SV.pl (.int .u64 o7) :: SV.pl (.int .u8 s0) :: SV.pl (.int .u8 s1) :: SV.pl (.int .u8 s2) :: SV.pl (.int .u8 s3) :: y; SV.pl (.int .u64 o2) :: SV.pl (.int .u64 o3) :: SV.pl (.int .u64 o4) :: SV.pl (.int .u64 o5) :: SV.pl (.int .u64 o6) :: y; let y:=SV.pl (.int .u64 e5) :: SV.pl (.int .u64 e6) :: SV.pl (.int .u64 e7) :: SV.pl (.int .u64 o0) :: SV.pl (.int .u64 o1) :: y; SV.pl (.int .u64 e0) :: SV.pl (.int .u64 e1) :: SV.pl (.int .u64 e2) :: SV.pl (.int .u64 e3) :: SV.pl (.int .u64 e4) :: y))]=(R0 [aU [e0,e1,e2,e3,e4,e5,e6,e7] 8,.agg (.ints .u8 [s0,s1,s2,s3,s4,s5,s6,s7,s8,s9,s10,s11,s12,s13,s14,s15,s16,s17,s18,s19,s20,s21,s22,s23,s24,s25,s26,s27,s28,s29,s30,s31]) 32]).bind λ t=>(R0 [aU [o0,o1,o2,o3,o4,o5,o6,o7] 8,.agg (.ints .u8 [s0,s1,s2,s3,s4,s5,s6,s7,s8,s9,s10,s11,s12,s13,s14,s15,s16,s17,s18,s19,s20,s21,s22,s23,s24,s25,s26,s27,s28,s29,s30,s31]) 32]).bind λ bY=>(R0 [aU [e0,e1,e2,e3,e4,e5,e6,e7] 8,.agg (.ints .u8 [t0,t1,t2,t3,t4,t5,t6,t7,t8,t9,t10,t11,t12,t13,t14,t15,t16,t17,t18,t19,t20,t21,t22,t23,t24,t25,t26,t27,t28,t29,t30,t31]) 32]).bind λ cJ=>(R1 [.c (CV.mdat [SV.clor 52 [(.ints .u64 (aG t),0,8),(.ints .u8 (aO t),0,32)],SV.clor 52 [(.ints .u64 (aG bY),0,8),(.ints .u8 (aO bY),0,32)],SV.clor 52 [(.ints .u64 (aG cJ),0,8),(.ints .u8 (aO cJ),0,32)]])]).bind λ t=>some (AV.tup [.s (.pl (.str (aM t))),.s (.pl (.int .i64 (bK t)))]):=by kernel_rfl
end
set_option maxRecDepth 4000
theorem dO {l:List Int} {n:Nat} (h:l.length=n+1):∃ a r,l=a :: r /\ r.length=n:=by
 cases l with
 | nil=>cases h
 | cons a r=>exact ⟨a,r,rfl,Nat.succ.inj h⟩
theorem aA4 {l0:List Int} (h0:l0.length=8):∃ a0 a1 a2 a3 a4 a5 a6 a7:Int,l0=[a0,a1,a2,a3,a4,a5,a6,a7]:=by
 obtain ⟨a0,l1,e0,h1⟩:=dO h0;obtain ⟨a1,l2,e1,h2⟩:=dO h1;obtain ⟨a2,l3,e2,h3⟩:=dO h2;obtain ⟨a3,l4,e3,h4⟩:=dO h3;obtain ⟨a4,l5,e4,h5⟩:=dO h4;obtain ⟨a5,l6,e5,h6⟩:=dO h5;obtain ⟨a6,l7,e6,h7⟩:=dO h6;obtain ⟨a7,l8,e7,h8⟩:=dO h7;have e8:=List.length_eq_zero_iff.1 h8;refine ⟨a0,a1,a2,a3,a4,a5,a6,a7,?_⟩;rw [e0,e1,e2,e3,e4,e5,e6,e7,e8]
theorem AG {l0:List Int} (h0:l0.length=32):∃ a0 a1 a2 a3 a4 a5 a6 a7 a8 a9 a10 a11 a12 a13 a14 a15 a16 a17 a18 a19 a20 a21 a22 a23 a24 a25 a26 a27 a28 a29 a30 a31:Int,l0=[a0,a1,a2,a3,a4,a5,a6,a7,a8,a9,a10,a11,a12,a13,a14,a15,a16,a17,a18,a19,a20,a21,a22,a23,a24,a25,a26,a27,a28,a29,a30,a31]:=by
 obtain ⟨a0,l1,e0,h1⟩:=dO h0;obtain ⟨a1,l2,e1,h2⟩:=dO h1;obtain ⟨a2,l3,e2,h3⟩:=dO h2;obtain ⟨a3,l4,e3,h4⟩:=dO h3;obtain ⟨a4,l5,e4,h5⟩:=dO h4;obtain ⟨a5,l6,e5,h6⟩:=dO h5;obtain ⟨a6,l7,e6,h7⟩:=dO h6;obtain ⟨a7,l8,e7,h8⟩:=dO h7;obtain ⟨a8,l9,e8,h9⟩:=dO h8;obtain ⟨a9,l10,e9,h10⟩:=dO h9;obtain ⟨a10,l11,e10,h11⟩:=dO h10;obtain ⟨a11,l12,e11,h12⟩:=dO h11;obtain ⟨a12,l13,e12,h13⟩:=dO h12;obtain ⟨a13,l14,e13,h14⟩:=dO h13;obtain ⟨a14,l15,e14,h15⟩:=dO h14;obtain ⟨a15,l16,e15,h16⟩:=dO h15;obtain ⟨a16,l17,e16,h17⟩:=dO h16;obtain ⟨a17,l18,e17,h18⟩:=dO h17;obtain ⟨a18,l19,e18,h19⟩:=dO h18;obtain ⟨a19,l20,e19,h20⟩:=dO h19;obtain ⟨a20,l21,e20,h21⟩:=dO h20;obtain ⟨a21,l22,e21,h22⟩:=dO h21;obtain ⟨a22,l23,e22,h23⟩:=dO h22;obtain ⟨a23,l24,e23,h24⟩:=dO h23;obtain ⟨a24,l25,e24,h25⟩:=dO h24;obtain ⟨a25,l26,e25,h26⟩:=dO h25;obtain ⟨a26,l27,e26,h27⟩:=dO h26;obtain ⟨a27,l28,e27,h28⟩:=dO h27;obtain ⟨a28,l29,e28,h29⟩:=dO h28;obtain ⟨a29,l30,e29,h30⟩:=dO h29;obtain ⟨a30,l31,e30,h31⟩:=dO h30;obtain ⟨a31,l32,e31,h32⟩:=dO h31;have e32:=List.length_eq_zero_iff.1 h32;refine ⟨a0,a1,a2,a3,a4,a5,a6,a7,a8,a9,a10,a11,a12,a13,a14,a15,a16,a17,a18,a19,a20,a21,a22,a23,a24,a25,a26,a27,a28,a29,a30,a31,?_⟩;rw [e0,e1,e2,e3,e4,e5,e6,e7,e8,e9,e10,e11,e12,e13,e14,e15,e16,e17,e18,e19,e20,e21,e22,e23,e24,e25,e26,e27,e28,e29,e30,e31,e32]
theorem UI:∀ {l:List SV} {e:List Int},Ky l=some e->l=e.map λ n=>SV.pl (.int .u64 n):=by
 intro l
 induction l with
 | nil=>intro e h; cases h; rfl
 | cons x r ih=>
  intro e h;unfold Ky at h;split at h
  ·rename_i q; cases q
  ·rename_i n r' q;cases q;split at h
   ·rename_i l' hl;cases h;rw [mR,<-ih hl]
   ·cases h
  ·cases h
theorem K1:∀ {l:List SV} {e:List Int},IV l=some e->l=e.map λ n=>SV.pl (.int .u8 n):=by
 intro l
 induction l with
 | nil=>intro e h; cases h; rfl
 | cons x r ih=>
  intro e h;unfold IV at h;split at h
  ·rename_i q; cases q
  ·rename_i n r' q;cases q;split at h
   ·rename_i l' hl;cases h;rw [mR,<-ih hl]
   ·cases h
  ·cases h
def OB (e o s t:List Int):AV:=.c (.mix (e.map (λ n=>SV.pl (.int .u64 n))++(o.map (λ n=>SV.pl (.int .u64 n))++(s.map (λ n=>SV.pl (.int .u8 n))++t.map (λ n=>SV.pl (.int .u8 n))))))
theorem K2 {T:Type} {F:List Int->List Int->List Int->List Int->T} {args:List AV} {r:T} (h:C0 F args=some r) :
  ∃ e o s t,args=[OB e o s t] /\ gK e=true /\ gK o=true /\ dP s=true /\ dP t=true /\ r=F e o s t:=by
 unfold C0 at h;split at h
 ·rename_i l;split at h
  ·rename_i e o s t h1 h2 h3 h4;obtain ⟨hc,hr⟩:=bO h;simp only [aW] at hc;obtain ⟨c1,c2,c3,c4⟩:=hc;refine ⟨e,o,s,t,?_,c1,c2,c3,c4,hr.symm⟩;have k1:=UI h1;have k2:=UI h2;have k3:=K1 h3;have k4:=K1 h4;have e1:=(DM 8 l).symm;have e2:=(DM 8 (l.drop 8)).symm;have e3:=(DM 32 (l.drop 16)).symm;rw [yS] at e2;rw [yS] at e3;have d2:l.drop (8+8)=l.drop 16:=rfl;have d3:l.drop (16+32)=l.drop 48:=rfl;rw [d2] at e2;rw [d3] at e3;unfold OB;rw [<-k1,<-k2,<-k3,<-k4,<-e3,<-e2,<-e1]
  ·cases h
 ·cases h
abbrev bBP:Cg:=aWX (List Int × List Int) Xm (λ t=>t.fst) (λ t=>t.snd) (Str × Int) Xo (λ t=>t.fst) (λ t=>t.snd)
theorem aQM:CfOk prog bBP.c:=gk <| aA UG <| aA UH <| aH
theorem OC:CallOk prog 8 aA0:=by
 refine fO aQM Tryz.func8 ?_;intro args r hr;obtain ⟨e,o,s,t,rfl,c1,c2,c3,c4,rfl⟩:=K2 (F:=λ e o s t=>pP e s e t o s) hr;obtain ⟨e0,e1,e2,e3,e4,e5,e6,e7,rfl⟩:=aA4 (lA c1);obtain ⟨o0,o1,o2,o3,o4,o5,o6,o7,rfl⟩:=aA4 (lA c2);obtain ⟨s0,s1,s2,s3,s4,s5,s6,s7,s8,s9,s10,s11,s12,s13,s14,s15,s16,s17,s18,s19,s20,s21,s22,s23,s24,s25,s26,s27,s28,s29,s30,s31,rfl⟩:=AG (fW c3).1;obtain ⟨t0,t1,t2,t3,t4,t5,t6,t7,t8,t9,t10,t11,t12,t13,t14,t15,t16,t17,t18,t19,t20,t21,t22,t23,t24,t25,t26,t27,t28,t29,t30,t31,rfl⟩:=AG (fW c4).1;have kb:∀ a b:List Int,gK a=true->dP b=true->EM a b=true:=λ a b h1 h2=>by unfold EM; rw [h1,h2]; rfl
 have th:=OA (kb _ _ c1 c3) (kb _ _ c1 c4) (kb _ _ c2 c3);refine (bBN ..).trans ?_;refine aI (vG [e0,e1,e2,e3,e4,e5,e6,e7] [s0,s1,s2,s3,s4,s5,s6,s7,s8,s9,s10,s11,s12,s13,s14,s15,s16,s17,s18,s19,s20,s21,s22,s23,s24,s25,s26,s27,s28,s29,s30,s31]) ?_;refine aI (vG [e0,e1,e2,e3,e4,e5,e6,e7] [t0,t1,t2,t3,t4,t5,t6,t7,t8,t9,t10,t11,t12,t13,t14,t15,t16,t17,t18,t19,t20,t21,t22,t23,t24,t25,t26,t27,t28,t29,t30,t31]) ?_;refine aI (vG [o0,o1,o2,o3,o4,o5,o6,o7] [s0,s1,s2,s3,s4,s5,s6,s7,s8,s9,s10,s11,s12,s13,s14,s15,s16,s17,s18,s19,s20,s21,s22,s23,s24,s25,s26,s27,s28,s29,s30,s31]) ?_;refine aI th ?_;rfl
abbrev bBQ:Cg:=aWY (List Int × List Int) Xm (λ t=>t.fst) (λ t=>t.snd) (Str × Int) Xo (λ t=>t.fst) (λ t=>t.snd)
theorem aQN:CfOk prog bBQ.c:=gk <| aA UG <| aA UH <| aH
theorem aEp:CallOk prog 10 aA1:=by
 refine fO aQN Tryz.func10 ?_;intro args r hr;obtain ⟨e,o,s,t,rfl,c1,c2,c3,c4,rfl⟩:=K2 (F:=λ e o s t=>pP e s o s e t) hr;obtain ⟨e0,e1,e2,e3,e4,e5,e6,e7,rfl⟩:=aA4 (lA c1);obtain ⟨o0,o1,o2,o3,o4,o5,o6,o7,rfl⟩:=aA4 (lA c2);obtain ⟨s0,s1,s2,s3,s4,s5,s6,s7,s8,s9,s10,s11,s12,s13,s14,s15,s16,s17,s18,s19,s20,s21,s22,s23,s24,s25,s26,s27,s28,s29,s30,s31,rfl⟩:=AG (fW c3).1;obtain ⟨t0,t1,t2,t3,t4,t5,t6,t7,t8,t9,t10,t11,t12,t13,t14,t15,t16,t17,t18,t19,t20,t21,t22,t23,t24,t25,t26,t27,t28,t29,t30,t31,rfl⟩:=AG (fW c4).1;have kb:∀ a b:List Int,gK a=true->dP b=true->EM a b=true:=λ a b h1 h2=>by unfold EM; rw [h1,h2]; rfl
 have th:=OA (kb _ _ c1 c3) (kb _ _ c2 c3) (kb _ _ c1 c4);refine (bBO ..).trans ?_;refine aI (vG [e0,e1,e2,e3,e4,e5,e6,e7] [s0,s1,s2,s3,s4,s5,s6,s7,s8,s9,s10,s11,s12,s13,s14,s15,s16,s17,s18,s19,s20,s21,s22,s23,s24,s25,s26,s27,s28,s29,s30,s31]) ?_;refine aI (vG [o0,o1,o2,o3,o4,o5,o6,o7] [s0,s1,s2,s3,s4,s5,s6,s7,s8,s9,s10,s11,s12,s13,s14,s15,s16,s17,s18,s19,s20,s21,s22,s23,s24,s25,s26,s27,s28,s29,s30,s31]) ?_;refine aI (vG [e0,e1,e2,e3,e4,e5,e6,e7] [t0,t1,t2,t3,t4,t5,t6,t7,t8,t9,t10,t11,t12,t13,t14,t15,t16,t17,t18,t19,t20,t21,t22,t23,t24,t25,t26,t27,t28,t29,t30,t31]) ?_;refine aI th ?_;rfl
section
variable (T0:Type) (R0:FA T0) (aG:T0->List UInt8)
def aWZ:Cg:=⟨⟨cV [(43,⟨R0,λ t=>AV.str (aG t)⟩)],[],cX⟩,[]⟩
theorem bBR (fu:Nat) (k:Str) (ss:List Str) (n:Nat):aS prog Tryz.f40 (aWZ T0 R0 aG) fu [.str k,.s (.dat (.strs ss) n 1)]=(R0 [.str k,.s (.dat (.strs ss) n 1)]).bind λ t=>some (AV.str (aG t)):=by kernel_rfl
end
section
variable (T0:Type) (R0:FA T0) (aG:T0->List Int)
def aW0:Cg:=⟨⟨cV [(78,⟨R0,λ t=>AV.agg (.ints .u8 (aG t)) 64⟩)],[],cX⟩,[]⟩
theorem bBS (fu:Nat) (ss:List Str) (n:Nat):aS prog Tryz.f41 (aW0 T0 R0 aG) fu [.s (.dat (.strs ss) n 1)]=(R0 [.s (.dat (.strs ss) n 1)]).bind λ t=>some (AV.str (List.map b8 (List.take 64 (List.drop 0 (aG t))))):=by kernel_rfl
end
section
variable (T0:Type) (R0:FA T0) (aG:T0->List UInt8) (T1:Type) (R1:FA T1) (aM:T1->List UInt8) (T2:Type) (R2:FA T2) (bE:T2->List UInt8) (T3:Type) (R3:FA T3) (bS:T3->List UInt8)
def aW1:Cg:=⟨⟨cV [(40,⟨R0,λ t=>AV.str (aG t)⟩),(41,⟨R1,λ t=>AV.str (aM t)⟩),(42,⟨R2,λ t=>AV.str (bE t)⟩),(43,⟨R3,λ t=>AV.str (bS t)⟩)],[],cX⟩,[]⟩
theorem bBT (fu:Nat) (s p:Str):aS prog Tryz.f15 (aW1 T0 R0 aG T1 R1 aM T2 R2 bE T3 R3 bS) fu [.str s,.str p]=(R0 [.str [],.s (.dat (.strs [s]) 1 1)]).bind λ t=>(R1 [.s (.dat (.strs [p]) 1 1)]).bind λ bY=>(R2 [.str (aG t),.str [(72:UInt8),97,110,100,115,104,97,107,101,83,101,99,114,101,116],.str (aM bY)]).bind λ cJ=>(R2 [.str (bE cJ),.str [(83:UInt8),101,114,118,101,114,77,65,67],.str []]).bind λ fF=>(R3 [.str (bE fF),.s (.dat (.strs [aM bY]) 1 1)]).bind λ gA=>(R2 [.str (bE cJ),.str [(67:UInt8),108,105,101,110,116,77,65,67],.str []]).bind λ gC=>(R1 [.s (.dat (.strs ([p]++[bS gA])) 2 1)]).bind λ jJ=>(R3 [.str (bE gC),.s (.dat (.strs [aM jJ]) 1 1)]).bind λ nR=>(R2 [.str (aG t),.str [(83:UInt8),101,115,115,105,111,110,75,101,121],.str (aM bY)]).bind λ t=>some (AV.agg (.strs ([bE t]++([bS gA]++[bS nR]))) 3):=by kernel_rfl
end
section
variable (T0:Type) (R0:FA T0)
def aW2:Cg:=⟨⟨cV [(24,⟨R0,λ t=>AV.bool (true)⟩)],[],cX⟩,[]⟩
theorem bBU (fu:Nat):aS prog Tryz.f12 (aW2 T0 R0) fu []=(R0 []).bind λ t=>some (AV.bool true):=by kernel_rfl
end
section
variable (T0:Type) (R0:FA T0) (T1:Type) (R1:FA T1) (T2:Type) (R2:FA T2) (bE:T2->List Int) (T3:Type) (R3:FA T3) (bS eX oL vC vD f3f f3g f3h f3i f3j f3k f3l f3m f3n f3o f3p f3q f3r f3s f3t f3u f3v f3w f3x f3y f3z f3A f3B f3C f3D f3E f3F:T3->Int) (T4:Type) (R4:FA T4) (dG:T4->Str) (jU:T4->Int) (T5:Type) (R5:FA T5) (fE jG rR:T5->Str)
def aW3:Cg:=⟨⟨cV [(11,⟨R0,λ t=>AV.bool (true)⟩),(12,⟨R1,λ t=>AV.bool (true)⟩),(13,⟨R2,λ t=>AV.agg (.ints .u64 (bE t)) 20⟩),(14,⟨R3,λ t=>AV.agg (.ints .u8 [(bS t),(eX t),(oL t),(vC t),(vD t),(f3f t),(f3g t),(f3h t),(f3i t),(f3j t),(f3k t),(f3l t),(f3m t),(f3n t),(f3o t),(f3p t),(f3q t),(f3r t),(f3s t),(f3t t),(f3u t),(f3v t),(f3w t),(f3x t),(f3y t),(f3z t),(f3A t),(f3B t),(f3C t),(f3D t),(f3E t),(f3F t)]) 32⟩),(8,⟨R4,λ t=>AV.tup [.s (.pl (.str (dG t))),.s (.pl (.int .i64 (jU t)))]⟩),(15,⟨R5,λ t=>AV.agg (.strs [(fE t),(jG t),(rR t)]) 3⟩)],[],cX⟩,[]⟩
theorem bBV (fu:Nat):aS prog Tryz.f4 (aW3 T0 R0 T1 R1 T2 R2 bE T3 R3 bS eX oL vC vD f3f f3g f3h f3i f3j f3k f3l f3m f3n f3o f3p f3q f3r f3s f3t f3u f3v f3w f3x f3y f3z f3A f3B f3C f3D f3E f3F T4 R4 dG jU T5 R5 fE jG rR) fu []=(R0 []).bind λ t=>(R1 []).bind λ t=>(R2 []).bind λ t=>(R3 [.agg (.ints .u64 (bE t)) 20]).bind λ t=>(R2 []).bind λ bY=>(R3 [.agg (.ints .u64 (bE bY)) 20]).bind λ cJ=>(R4 [.c (.mix [.pl (.int .u64 0),.pl (.int .u64 0),.pl (.int .u64 0),.pl (.int .u64 0),.pl (.int .u64 0),.pl (.int .u64 0),.pl (.int .u64 0),.pl (.int .u64 0),.pl (.int .u64 0),.pl (.int .u64 0),.pl (.int .u64 0),.pl (.int .u64 0),.pl (.int .u64 0),.pl (.int .u64 0),.pl (.int .u64 0),.pl (.int .u64 0),.pl (.int .u8 (bS t)),.pl (.int .u8 (eX t)),.pl (.int .u8 (oL t)),.pl (.int .u8 (vC t)),.pl (.int .u8 (vD t)),.pl (.int .u8 (f3f t)),.pl (.int .u8 (f3g t)),.pl (.int .u8 (f3h t)),.pl (.int .u8 (f3i t)),.pl (.int .u8 (f3j t)),.pl (.int .u8 (f3k t)),.pl (.int .u8 (f3l t)),.pl (.int .u8 (f3m t)),.pl (.int .u8 (f3n t)),.pl (.int .u8 (f3o t)),.pl (.int .u8 (f3p t)),.pl (.int .u8 (f3q t)),.pl (.int .u8 (f3r t)),.pl (.int .u8 (f3s t)),.pl (.int .u8 (f3t t)),.pl (.int .u8 (f3u t)),.pl (.int .u8 (f3v t)),.pl (.int .u8 (f3w t)),.pl (.int .u8 (f3x t)),.pl (.int .u8 (f3y t)),.pl (.int .u8 (f3z t)),.pl (.int .u8 (f3A t)),.pl (.int .u8 (f3B t)),.pl (.int .u8 (f3C t)),.pl (.int .u8 (f3D t)),.pl (.int .u8 (f3E t)),.pl (.int .u8 (f3F t)),.pl (.int .u8 (bS cJ)),.pl (.int .u8 (eX cJ)),.pl (.int .u8 (oL cJ)),.pl (.int .u8 (vC cJ)),.pl (.int .u8 (vD cJ)),.pl (.int .u8 (f3f cJ)),.pl (.int .u8 (f3g cJ)),.pl (.int .u8 (f3h cJ)),.pl (.int .u8 (f3i cJ)),.pl (.int .u8 (f3j cJ)),.pl (.int .u8 (f3k cJ)),.pl (.int .u8 (f3l cJ)),.pl (.int .u8 (f3m cJ)),.pl (.int .u8 (f3n cJ)),.pl (.int .u8 (f3o cJ)),.pl (.int .u8 (f3p cJ)),.pl (.int .u8 (f3q cJ)),.pl (.int .u8 (f3r cJ)),.pl (.int .u8 (f3s cJ)),.pl (.int .u8 (f3t cJ)),.pl (.int .u8 (f3u cJ)),.pl (.int .u8 (f3v cJ)),.pl (.int .u8 (f3w cJ)),.pl (.int .u8 (f3x cJ)),.pl (.int .u8 (f3y cJ)),.pl (.int .u8 (f3z cJ)),.pl (.int .u8 (f3A cJ)),.pl (.int .u8 (f3B cJ)),.pl (.int .u8 (f3C cJ)),.pl (.int .u8 (f3D cJ)),.pl (.int .u8 (f3E cJ)),.pl (.int .u8 (f3F cJ))])]).bind λ t=>bif decide (jU t=9) then (R5 [.str [(97:UInt8)],.str [(98:UInt8)]]).bind λ t=>some (AV.bool (decide ((↑(List.length (fE t)):Int)=64))) else some (AV.bool false):=by kernel_rfl
end
set_option maxRecDepth 4000
abbrev bBW:Cg:=aWZ (List UInt8) GD (λ t=>t)
theorem aQO:CfOk prog bBW.c:=gk <| aA Q5 <| aH
theorem Xp:CallOk prog 40 OZ:=by
 refine fO aQO Tryz.func40 ?_;intro args t ht;unfold OZ at ht;simp only at ht;split at ht
 ·rename_i k ss n;obtain ⟨h1,h2⟩:=bO ht;subst h2;rw [aW] at h1;refine (bBR ..).trans ?_;refine aI (B8 h1.1 h1.2) ?_;rfl
 ·cases ht
theorem aQP {ss:List Str} {n:Nat} (h:VF ss n=true):nZ ss n=true:=by
 unfold VF at h;rw [aW,aW,dJ,dJ] at h;unfold nZ;rw [h.1.1,lR (show ss.length <= 1048576 by have:=h.1.2; omega),lR (show (Lib.join ss []).length <= 1099511627776 by have:=h.2; omega)]; rfl
abbrev bBX:Cg:=aW0 (List Nat) SI (λ t=>up t)
theorem aQQ:CfOk prog bBX.c:=gk <| aA EZ <| aH
theorem aI0:CallOk prog 41 PH:=by
 refine fO aQQ Tryz.func41 ?_;intro args t ht;unfold PH at ht;simp only at ht;split at ht
 ·rename_i ss n;obtain ⟨h1,h2⟩:=bO ht;subst h2;refine (bBS ..).trans ?_;refine aI (xP h1) ?_;rw [aBe]; rfl
 ·cases ht
theorem OD {ss:List Str} {n:Nat} (h:nZ ss n=true):CR [.s (.dat (.strs ss) n 1)]=some (hS (Lib.join ss [])):=by
 show cond (nZ ss n) (some (hS (Lib.join ss []))) none=_;rw [h]; rfl
theorem aQR {s:Str} (h:s.length <= 1099511620000):VF [s] 1=true:=by
 show (Nat.beq 1 1 && Nat.ble 1 1048000 && Nat.ble (Lib.join [s] []).length 1099511620000)=true;rw [Lib.join_one,lR h]; rfl
theorem bBY {s:Str} (h:s.length <= 1099511620000):nZ [s] 1=true:=aQP (aQR h)
theorem aW4 (s t:Str):Lib.join [s,t] []=s++t:=by rw [zM]; simp
theorem bBZ {s t:Str} (h:s.length+t.length <= 1099511620000):nZ [s,t] 2=true:=by
 have j:=aW4 s t;show (Nat.beq 2 2 && Nat.ble 2 1048576 && Nat.ble (Lib.join [s,t] []).length 1099511627776)=true;rw [j,cD,lR (show s.length+t.length <= 1099511627776 by omega)]; rfl
theorem OE (k t:Str):(A7 k t).length=64:=pY _
theorem AH {k l c:Str} (hl:l.length <= 248) (hc:c.length <= 255):(k9 k l c 64).1.length=64:=by
 unfold k9;rw [aV (by omega),aV (by omega),aV (by omega)];exact aNk _ _ _
theorem Be {s:Str} (h:s.length <= 1000):BD s=true:=lR (by omega)
theorem vI {s:Str} (h:s.length <= 1099511620000):gJ s=true:=lR h
abbrev bB0:Cg:=aW1 (List UInt8) GD (λ t=>t) (List UInt8) CR (λ t=>t) (List UInt8) Gu (λ t=>t) (List UInt8) GD (λ t=>t)
theorem aQS:CfOk prog bB0.c:=gk <| aA Xp <| aA aI0 <| aA aF2 <| aA Q5 <| aH
theorem aEq:CallOk prog 15 QN:=by
 refine fO aQS Tryz.func15 ?_;intro args t ht;unfold QN at ht;simp only at ht;split at ht
 ·rename_i s p;obtain ⟨h1,h2⟩:=bO ht;subst h2;rw [aW,dJ,dJ] at h1;obtain ⟨hs,hp⟩:=h1;have j1:=B8 (k:=[]) (ss:=[s]) (n:=1) rfl (aQR (by omega));rw [Lib.join_one] at j1;have j1:GD [.str [],.s (.dat (.strs [s]) 1 1)]=some (Kz s):=j1;have j2:=OD (ss:=[p]) (n:=1) (bBY (by omega));rw [Lib.join_one] at j2;have l0:(Kz s).length=64:=OE _ _;have lp:(hS p).length=64:=pY _;have j3:Gu [.str (Kz s),.str [72,97,110,100,115,104,97,107,101,83,101,99,114,101,116],.str (hS p)]=some (oR s p):=Ai (vI (by omega)) (Be (by decide)) (Be (by omega));have lh:(oR s p).length=64:=AH (by decide) (by omega);have j4:=Ai (k:=oR s p) (l:=[83,101,114,118,101,114,77,65,67]) (c:=[]) (vI (by omega)) (Be (by decide)) (Be (by decide));have l4:(k9 (oR s p) [83,101,114,118,101,114,77,65,67] [] 64).1.length=64:=AH (by decide) (by decide);have j5:=B8 (k:=(k9 (oR s p) [83,101,114,118,101,114,77,65,67] [] 64).1) (ss:=[hS p]) (n:=1) (vI (by omega)) (aQR (by omega));rw [Lib.join_one] at j5;have j5:GD [.str (k9 (oR s p) [83,101,114,118,101,114,77,65,67] [] 64).1,.s (.dat (.strs [hS p]) 1 1)]=some (xK s p):=j5;have l5:(xK s p).length=64:=OE _ _;have j6:=Ai (k:=oR s p) (l:=[67,108,105,101,110,116,77,65,67]) (c:=[]) (vI (by omega)) (Be (by decide)) (Be (by decide));have l6:(k9 (oR s p) [67,108,105,101,110,116,77,65,67] [] 64).1.length=64:=AH (by decide) (by decide);have j7:=OD (ss:=[p,xK s p]) (n:=2) (bBZ (by omega));rw [aW4] at j7;have l7:(hS (p++xK s p)).length=64:=pY _;have j8:=B8 (k:=(k9 (oR s p) [67,108,105,101,110,116,77,65,67] [] 64).1) (ss:=[hS (p++xK s p)]) (n:=1) (vI (by omega)) (aQR (by omega));rw [Lib.join_one] at j8;have j8:GD [.str (k9 (oR s p) [67,108,105,101,110,116,77,65,67] [] 64).1,.s (.dat (.strs [hS (p++xK s p)]) 1 1)]=some (K0 s p):=j8;have j9:Gu [.str (Kz s),.str [83,101,115,115,105,111,110,75,101,121],.str (hS p)]=some (IW s p):=Ai (vI (by omega)) (Be (by decide)) (Be (by omega));refine (bBT ..).trans ?_;show _=some (AV.agg (.strs [IW s p,xK s p,K0 s p]) 3);generalize IW s p=v9 at *;generalize K0 s p=v8 at *;generalize hS (p++xK s p)=v7 at *;generalize xK s p=v5 at *;generalize (k9 (oR s p) [67,108,105,101,110,116,77,65,67] [] 64).1=v6 at *;generalize (k9 (oR s p) [83,101,114,118,101,114,77,65,67] [] 64).1=v4 at *;generalize oR s p=v3 at *;generalize hS p=v2 at *;generalize Kz s=v1 at *;refine aI j1 ?_;refine aI j2 ?_;refine aI j3 ?_;refine aI j4 ?_;refine aI j5 ?_;refine aI j6 ?_;refine aI j7 ?_;refine aI j8 ?_;refine aI j9 ?_;rfl
 ·cases ht
theorem Xq {s p:Str} (hs:s.length <= 1099511000000) (hp:p.length <= 1099511000000):aA3 [.str s,.str p]=some (IW s p,xK s p,K0 s p):=by
 show cond (Nat.ble s.length 1099511000000 && Nat.ble p.length 1099511000000) (some (IW s p,xK s p,K0 s p)) none=_;rw [lR hs,lR hp]; rfl
theorem aEr (s p:Str):(IW s p).length=64:=AH (by decide) (by rw [pY]; decide)
theorem Xr:CallOk prog 14 UD:=by
 intro args t ht;obtain ⟨p,e,hp,et⟩:=tB (F:=λ p=>fv (cW p)%aK) ht;subst e et;exact y6 [eP p] (lo 32 (fv (cW p)%aK)) (rD hp)
theorem UJ {p:Pt} (h:nG p):UE [eP p]=some (fv (cW p)%aK):=CQ (λ p=>fv (cW p)%aK) h
theorem OG (e:List Int):Ky (e.map λ n=>SV.pl (.int .u64 n))=some e:=by
 induction e with
 | nil=>rfl
 | cons x r ih=>rw [mR,Ky,ih]
theorem HZ (e:List Int):IV (e.map λ n=>SV.pl (.int .u8 n))=some e:=by
 induction e with
 | nil=>rfl
 | cons x r ih=>rw [mR,IV,ih]
theorem UK {T:Type} (F:List Int->List Int->List Int->List Int->T) {e o s t:List Int} (c1:gK e=true) (c2:gK o=true) (c3:dP s=true) (c4:dP t=true):C0 F [OB e o s t]=some (F e o s t):=by
 have l1:=lA c1;have l2:=lA c2;have l3:=(fW c3).1;have l4:=(fW c4).1;unfold OB C0;generalize hE:e.map (λ n=>SV.pl (.int .u64 n))=E;generalize hO:o.map (λ n=>SV.pl (.int .u64 n))=O;generalize hS:s.map (λ n=>SV.pl (.int .u8 n))=S;generalize hT:t.map (λ n=>SV.pl (.int .u8 n))=T';have m1:E.length=8:=by rw [<-hE,eZ,l1]
 have m2:O.length=8:=by rw [<-hO,eZ,l2]
 have m3:S.length=32:=by rw [<-hS,eZ,l3]
 have t1:(E++(O++(S++T'))).take 8=E:=DN m1;have d1:(E++(O++(S++T'))).drop 8=O++(S++T'):=ID m1;have d2:(E++(O++(S++T'))).drop 16=S++T':=by
  have:(E++(O++(S++T'))).drop (8+8)=S++T':=by rw [<-yS,d1]; exact ID m2
  exact this
 have d3:(E++(O++(S++T'))).drop 48=T':=by
  have:(E++(O++(S++T'))).drop (16+32)=T':=by rw [<-yS,d2]; exact ID m3
  exact this
 simp only [t1,d1,d2,d3,DN m2,DN m3];rw [<-hE,<-hO,<-hS,<-hT,OG,OG,HZ,HZ];simp only [c1,c2,c3,c4,CY,aB]
theorem K3 {e o s t:List Int} (c1:gK e=true) (c2:gK o=true) (c3:dP s=true) (c4:dP t=true):QM [OB e o s t]=some (pP e s e t o s):=UK _ c1 c2 c3 c4
theorem Xs {e o s t:List Int} (c1:gK e=true) (c2:gK o=true) (c3:dP s=true) (c4:dP t=true):aA2 [OB e o s t]=some (pP e s o s e t):=UK _ c1 c2 c3 c4
abbrev aEs:List Int:=List.replicate 8 0
theorem aQT:¬ e4 gB:=λ z=>by
 have:=(Ff SG).2 z;rw [PF] at this;cases this
theorem bB1:gO 0 (Xy i4)=(nE,9):=by
 obtain ⟨q,h,_,e,_,_,_⟩:=Hc SG aWz aQT;rw [K6,e]; rfl
abbrev bB2:Cg:=aW2 (PUnit) gM
theorem aQU:CfOk prog bB2.c:=gk <| aA ZN <| aH
theorem Xt:CallOk prog 12 gE:=by
 refine fO aQU Tryz.func12 ?_;intro args t ht;unfold gE at ht;simp only at ht;split at ht
 ·exact bBU ..
 ·cases ht
abbrev bB3:Cg:=aW3 (PUnit) gM (PUnit) gM (Pt) UV (λ t=>[↑t.x.a,↑t.x.b,↑t.x.c,↑t.x.d,↑t.x.e,↑t.y.a,↑t.y.b,↑t.y.c,↑t.y.d,↑t.y.e,↑t.z.a,↑t.z.b,↑t.z.c,↑t.z.d,↑t.z.e,↑t.t.a,↑t.t.b,↑t.t.c,↑t.t.d,↑t.t.e]) (Nat) UE (λ t=>(lo 32 t).getD 0 0) (λ t=>(lo 32 t).getD 1 0) (λ t=>(lo 32 t).getD 2 0) (λ t=>(lo 32 t).getD 3 0) (λ t=>(lo 32 t).getD 4 0) (λ t=>(lo 32 t).getD 5 0) (λ t=>(lo 32 t).getD 6 0) (λ t=>(lo 32 t).getD 7 0) (λ t=>(lo 32 t).getD 8 0) (λ t=>(lo 32 t).getD 9 0) (λ t=>(lo 32 t).getD 10 0) (λ t=>(lo 32 t).getD 11 0) (λ t=>(lo 32 t).getD 12 0) (λ t=>(lo 32 t).getD 13 0) (λ t=>(lo 32 t).getD 14 0) (λ t=>(lo 32 t).getD 15 0) (λ t=>(lo 32 t).getD 16 0) (λ t=>(lo 32 t).getD 17 0) (λ t=>(lo 32 t).getD 18 0) (λ t=>(lo 32 t).getD 19 0) (λ t=>(lo 32 t).getD 20 0) (λ t=>(lo 32 t).getD 21 0) (λ t=>(lo 32 t).getD 22 0) (λ t=>(lo 32 t).getD 23 0) (λ t=>(lo 32 t).getD 24 0) (λ t=>(lo 32 t).getD 25 0) (λ t=>(lo 32 t).getD 26 0) (λ t=>(lo 32 t).getD 27 0) (λ t=>(lo 32 t).getD 28 0) (λ t=>(lo 32 t).getD 29 0) (λ t=>(lo 32 t).getD 30 0) (λ t=>(lo 32 t).getD 31 0) (Str × Int) QM (λ t=>t.fst) (λ t=>t.snd) (Str × Str × Str) aA3 (λ t=>t.fst) (λ t=>t.snd.fst) (λ t=>t.snd.snd)
theorem aQV:CfOk prog bB3.c:=gk <| aA ZZ <| aA Xt <| aA Tm <| aA Xr <| aA OC <| aA aEq <| aH
theorem Xu:CallOk prog 4 gE:=by
 refine fO aQV Tryz.func4 ?_;intro args t ht;unfold gE at ht;simp only at ht;split at ht
 case h_2=>cases ht
 have o:=Gs;have b:=UJ DD;have ob:dP (lo 32 (fv (cW i4)%aK))=true:=Gt _;have c:=K3 (e:=aEs) (o:=aEs) (by decide) (by decide) ob ob;have e0:gO 0 (lo 32 (fv (cW i4)%aK))=(nE,9):=bB1;have v0:val aEs=0:=by decide
 have th:pP aEs (lo 32 (fv (cW i4)%aK)) aEs (lo 32 (fv (cW i4)%aK)) aEs (lo 32 (fv (cW i4)%aK))=([],9):=by
  unfold pP;rw [v0,e0]; rfl
 rw [th] at c;have d:=Xq (s:=[97]) (p:=[98]) (by decide) (by decide);have ld:=aEr [97] [98];generalize IW [97] [98]=v1 at *;generalize xK [97] [98]=v2 at *;generalize K0 [97] [98]=v3 at *;generalize fv (cW i4)%aK=N at *;generalize i4=Bp at *;refine (bBV ..).trans ?_;refine aI (show gM []=some () from rfl) ?_;refine aI (show gM []=some () from rfl) ?_;refine aI o ?_;refine aI b ?_;refine aI o ?_;refine aI b ?_;refine aI c ?_;refine nC (aD rfl) ?_;refine aI d ?_;show some (AV.bool (decide (((v1.length:Nat):Int)=64)))=_;rw [aD (by omega)]; rfl
end
end Go.Eng
