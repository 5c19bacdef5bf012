import Derived.Test.YthiilbllojllcaaGreatInLimb
import Derived.Test.YthiilbllojllcaaGreatZH1
namespace Go.Eng
open Go.IntKind (u64 i64 u8)
noncomputable section
open Go Go.Proofs
set_option linter.all false
def Ek (a b:Str):Str:=List.zipWith (λ x y=>b8 ((x.toNat ^^^ y.toNat:Nat):Int)) a b
def pH (n:Nat):Str:=[b8 ((n%256:Nat):Int)]
def Iy (d:Str):Str × Int:=if 255 < d.length then ([],5) else if d=[] then ([],3) else (d++pH d.length,0)
def jD (f:Nat->Str) (k:Nat):Str:=((List.range k).map f).flatten
def uY (n:Nat):Nat:=(n+63) / 64
def iC (dst:Str) (n:Nat) (m:Str):Str:=hS (List.replicate 128 0++(m++(pH (n / 256)++(pH n++([0]++(dst++pH dst.length))))))
def xB (dst:Str) (n:Nat) (m:Str):Nat->Str
 | 0=>hS (iC dst n m++([1]++(dst++pH dst.length)))
 | i+1=>hS (Ek (iC dst n m) (xB dst n m i)++(pH (i+2)++(dst++pH dst.length)))
def BC (dst:Str) (n:Nat) (m:Str):Str:=(jD (xB dst n m) (uY n)).take n
def ZS (dst:Str) (n:Int) (m:Str):Str × Int:=if n < 1 ∨ 16320 < n then ([],2) else if (Iy dst).2 ≠ 0 then ([],(Iy dst).2) else (BC dst n.toNat m,0)
def aUq:Summ where
 T:=Str
 run:=λ
  | [.c (.s (.pl (.str a))),.c (.s (.pl (.str b)))]=>cond (gJ a && gJ b) (some (Ek a b)) none
  | _=>none
 enc:=λ t=>.str t
def aUr:FA Str:=aUq.run
def aC0:Summ where
 T:=Str × Int
 run:=λ
  | [.c (.s (.pl (.str a)))]=>cond (gJ a) (some (Iy a)) none
  | _=>none
 enc:=λ t=>.tup [.s (.pl (.str t.1)),.s (.pl (.int .i64 t.2))]
def aC1:FA (Str × Int):=aC0.run
def aMR:Summ where
 T:=Str
 run:=λ
  | [.c (.s (.pl (.int .u8 n)))]=>some [b8 n]
  | _=>none
 enc:=λ t=>.str t
def aMS:FA Str:=aMR.run
def PH:Summ where
 T:=Str
 run:=λ
  | [.c (.s (.dat (.strs ss) n 1))]=>cond (nZ ss n) (some (hS (Lib.join ss []))) none
  | _=>none
 enc:=λ t=>.str t
def CR:FA Str:=PH.run
def aUs:Summ where
 T:=Str × Int
 run:=λ
  | [.c (.s (.pl (.str d))),.c (.s (.pl (.int .i64 k))),.c (.s (.dat (.strs ss) n 1))]=>cond (gJ d && VF ss n) (some (ZS d k (Lib.join ss []))) none
  | _=>none
 enc:=λ t=>.tup [.s (.pl (.str t.1)),.s (.pl (.int .i64 t.2))]
def aUt:FA (Str × Int):=aUs.run
def J2:Summ where
 T:=Str
 run:=λ
  | [.c (.s (.pl (.str d))),.c (.s (.pl (.int .i64 k))),.c (.s (.pl (.str m)))]=>cond (gJ m && decide (d.length <= 255 /\ 1 <= k /\ k <= 16320)) (some (BC d k.toNat m)) none
  | _=>none
 enc:=λ t=>.str t
def SX:FA Str:=J2.run
def eB (prk info:Str):Nat->Str
 | 0=>A7 prk (info++pH 1)
 | i+1=>A7 prk (eB prk info i++(info++pH (i+2)))
def aFR (prk info:Str) (n:Nat):Str:=(jD (eB prk info) (uY n)).take n
def aUu (prk info:Str) (n:Int):Str × Int:=if n < 0 then ([],2) else if 16320 < n then ([],5) else (aFR prk info n.toNat,0)
def BD (s:Str):Bool:=Nat.ble s.length 1099511000000
def opq:Str:=[79,80,65,81,85,69,45]
def aYj (label context:Str) (n:Nat):Str:=CA n++(pH (opq++label).length++((opq++label)++(pH context.length++context)))
def aMT (secret label context:Str) (n:Nat):Str:=aFR secret (aYj label context n) n
def k9 (secret label context:Str) (n:Int):Str × Int:=if 248 < label.length ∨ 255 < context.length then ([],5) else if n < 0 then ([],2) else if 16320 < n then ([],5) else (aMT secret label context n.toNat,0)
def J3:Summ where
 T:=Str × Int
 run:=λ
  | [.c (.s (.pl (.str k))),.c (.s (.pl (.str i))),.c (.s (.pl (.int .i64 n)))]=>cond (gJ k && BD i) (some (aUu k i n)) none
  | _=>none
 enc:=λ t=>.tup [.s (.pl (.str t.1)),.s (.pl (.int .i64 t.2))]
def SY:FA (Str × Int):=J3.run
def SZ:Summ where
 T:=Str × Int
 run:=λ
  | [.c (.s (.pl (.str k))),.c (.s (.pl (.str l))),.c (.s (.pl (.str c))),.c (.s (.pl (.int .i64 n)))]=>cond (gJ k && BD l && BD c && decide (-9223372036854775808 <= n /\ n < 9223372036854775808)) (some (k9 k l c n)) none
  | _=>none
 enc:=λ t=>.tup [.s (.pl (.str t.1)),.s (.pl (.int .i64 t.2))]
def ZT:FA (Str × Int):=SZ.run
def J4:Summ where
 T:=Str
 run:=λ
  | [.c (.s (.pl (.str k))),.c (.s (.pl (.str l))),.c (.s (.pl (.str c)))]=>cond (gJ k && BD l && BD c) (some (k9 k l c 64).1) none
  | _=>none
 enc:=λ t=>.str t
def Gu:FA Str:=J4.run
def Ml:Cg:=⟨⟨cV [],[],cX⟩,[(4,[0,1,5,14,15],[5])]⟩
def J5 (s0 s1:Str) (n5:Nat) (mB nI:Int) (fL:Nat) (aQ:List Int):St:={ tm:=[(0,.str s0),(1,.str s1),(5,.s (.own 0 n5 1)),(14,.int .i64 mB),(15,.int .i64 nI)],hp:=[(0,{ ty:=5,n:=fL,row:=Row.t (.ints .u8 aQ) })],nx:=1,sz:=31 }
def Sa:Code:=cN (bN [1,1,0,1,2] (bB Tryz.f176))
def Sb (fu:Nat):=mD prog Ml fu [1,1,0,1,2] (bB Tryz.f176) (gI prog Tryz.f176)
abbrev aUv (fu:Nat) (s0 s1:Str) (n5:Nat) (mB nI:Int) (fL:Nat) (aQ:List Int):=eV prog Ml fu Sa (Sb fu ) fu (some (J5 s0 s1 n5 mB nI fL aQ))
theorem aUw (fu:Nat) (a b:Str):aS prog Tryz.f176 Ml fu [.str a,.str b]=bif decide ((0 <= if (↑(List.length b):Int) < (↑(List.length a):Int) then (↑(List.length b):Int) else (↑(List.length a):Int)) /\ ((if (↑(List.length b):Int) < (↑(List.length a):Int) then (↑(List.length b):Int) else (↑(List.length a):Int)) <= if (↑(List.length b):Int) < (↑(List.length a):Int) then (↑(List.length b):Int) else (↑(List.length a):Int)) /\ (if (↑(List.length b):Int) < (↑(List.length a):Int) then (↑(List.length b):Int) else (↑(List.length a):Int)) <= 1099511627776) then aUv fu a b (if (↑(List.length b):Int) < (↑(List.length a):Int) then (↑(List.length b):Int) else (↑(List.length a):Int)).toNat (↑(if (↑(List.length b):Int) < (↑(List.length a):Int) then (↑(List.length b):Int) else (↑(List.length a):Int)).toNat:Int) 0 ((if (↑(List.length b):Int) < (↑(List.length a):Int) then (↑(List.length b):Int) else (↑(List.length a):Int)).toNat*1) (List.replicate (if (↑(List.length b):Int) < (↑(List.length a):Int) then (↑(List.length b):Int) else (↑(List.length a):Int)).toNat 0) else none:=by kernel_rfl
def PI (n5 fL:Nat) (aQ:List Int):St:={ tm:=[(5,.s (.own 0 n5 1))],hp:=[(0,{ ty:=5,n:=fL,row:=Row.t (.ints .u8 aQ) })],nx:=1,sz:=31 }
theorem aC2 {β:Type} (fu:Nat) (G:FG β) (H:FH β) (s0 s1:Str) (n5:Nat) (mB nI:Int) (fL:Nat) (aQ:List Int):fV prog Ml fu Sa G H (J5 s0 s1 n5 mB nI fL aQ)=bif decide (nI < mB) then bif decide (0 <= nI /\ nI < (↑(List.length s0):Int)) then bif decide (0 <= nI /\ nI < (↑(List.length s1):Int)) then bif decide (0 <= nI /\ nI < (n5:Int)) then G (some (J5 s0 s1 n5 mB (i64.wrap (nI+1)) fL (aQ.set nI.toNat (gG .u8 (↑(List.getD s0 nI.toNat (0:UInt8)).toNat:Int) (↑(List.getD s1 nI.toNat (0:UInt8)).toNat:Int))))) else none else none else none else H (Ex.exit 0) (some (PI n5 fL aQ)):=by kernel_rfl
theorem aFS (fu:Nat) (n5 fL:Nat) (aQ:List Int):Sb fu  (Ex.exit 0) (PI n5 fL aQ)=some (AV.str (List.map b8 aQ)):=by kernel_rfl
def aMU:Cg:=⟨⟨cV [],[],cX⟩,[]⟩
theorem aUx (fu:Nat) (a:Str):aS prog Tryz.f173 aMU fu [.str a]=bif decide (255 < (↑(List.length a):Int)) then some (AV.tup [.s (.pl (.str [])),.s (.pl (.int .i64 5))]) else bif decide (a=[]) then some (AV.tup [.s (.pl (.str [])),.s (.pl (.int .i64 3))]) else bif decide (List.length a+1 <= 9223372036854775807) then some (AV.tup [.s (.pl (.str (a++List.map b8 [u8.wrap (↑(List.length a):Int)]))),.s (.pl (.int .i64 0))]) else none:=by kernel_rfl
def aMV:Cg:=⟨⟨cV [],[],cX⟩,[]⟩
theorem aUy (fu:Nat) (n:Int):aS prog Tryz.f174 aMV fu [.int .u8 n]=some (AV.str (List.map b8 [n])):=by kernel_rfl
section
variable (T0:Type) (R0:FA T0) (aG:T0->List Int)
def aMW:Cg:=⟨⟨cV [(78,⟨R0,λ t=>AV.agg (.ints .u8 (aG t)) 64⟩)],[],cX⟩,[]⟩
theorem aUz (fu:Nat) (ss:List Str) (n:Nat):aS prog Tryz.f175 (aMW T0 R0 aG) fu [.s (.dat (.strs ss) n 1)]=(R0 [.s (.dat (.strs ss) n 1)]).bind λ t=>some (AV.str (List.map b8 (List.take 64 (List.drop 0 (aG t))))):=by kernel_rfl
end
section
variable (T0:Type) (R0:FA T0) (aG:T0->Str) (aO:T0->Int) (T1:Type) (R1:FA T1) (aM:T1->List UInt8) (T2:Type) (R2:FA T2) (bE:T2->List UInt8) (T3:Type) (R3:FA T3) (bS:T3->List UInt8) (T4:Type) (R4:FA T4) (dG:T4->List UInt8) (T5:Type) (R5:FA T5) (fE:T5->List UInt8)
def Mm:Cg:=⟨⟨cV [(173,⟨R0,λ t=>AV.tup [.s (.pl (.str (aG t))),.s (.pl (.int .i64 (aO t)))]⟩),(174,⟨R1,λ t=>AV.str (aM t)⟩),(119,⟨R2,λ t=>AV.str (bE t)⟩),(118,⟨R3,λ t=>AV.str (bS t)⟩),(175,⟨R4,λ t=>AV.str (dG t)⟩),(176,⟨R5,λ t=>AV.str (fE t)⟩)],[],cX⟩,[(12,[1,8,10,11,12,13,14],[1,13])]⟩
def J6 (v1:Int) (s8:Str) (s11 s12 s13:List UInt8) (mB:Int):St:={ tm:=[(1,.int .i64 v1),(8,.str s8),(10,.s (.clo 174 [] [])),(11,.str s11),(12,.str s12),(13,.str s13),(14,.int .u8 mB)],hp:=[],nx:=0,sz:=74 }
def Sc:Code:=cN (bN [1,1,1,1,1,1,1,1,0,1,2] (bB Tryz.f144))
def Sd (fu:Nat):=mD prog (Mm T0 R0 aG aO T1 R1 aM T2 R2 bE T3 R3 bS T4 R4 dG T5 R5 fE) fu [1,1,1,1,1,1,1,1,0,1,2] (bB Tryz.f144) (gI prog Tryz.f144)
abbrev aUA (fu:Nat) (v1:Int) (s8:Str) (s11 s12 s13:List UInt8) (mB:Int):=eV prog (Mm T0 R0 aG aO T1 R1 aM T2 R2 bE T3 R3 bS T4 R4 dG T5 R5 fE) fu Sc (Sd T0 R0 aG aO T1 R1 aM T2 R2 bE T3 R3 bS T4 R4 dG T5 R5 fE fu ) fu (some (J6 v1 s8 s11 s12 s13 mB))
theorem aUB (fu:Nat) (d:Str) (k:Int) (ss:List Str) (n:Nat):aS prog Tryz.f144 (Mm T0 R0 aG aO T1 R1 aM T2 R2 bE T3 R3 bS T4 R4 dG T5 R5 fE) fu [.str d,.int .i64 k,.s (.dat (.strs ss) n 1)]=bif decide (k < 1) || decide (16320 < k) then some (AV.tup [.s (.pl (.str [])),.s (.pl (.int .i64 2))]) else (R0 [.str d]).bind λ t=>bif !decide (aO t=0) then some (AV.tup [.s (.pl (.str [])),.s (.pl (.int .i64 (aO t)))]) else (R2 [.str [(0:UInt8)],.int .i64 128]).bind λ bY=>(R3 [.s (.dat (.strs ss) n 1),.str []]).bind λ cJ=>(R1 [.int .u8 (u8.wrap (eJ .i64 k 8))]).bind λ fF=>(R1 [.int .u8 (u8.wrap k)]).bind λ gA=>(R1 [.int .u8 0]).bind λ gC=>(R4 [.s (.dat (.strs ([bE bY]++([bS cJ]++([aM fF]++([aM gA]++([aM gC]++[aG t])))))) 6 1)]).bind λ jJ=>(R1 [.int .u8 1]).bind λ nR=>(R4 [.s (.dat (.strs ([dG jJ]++([aM nR]++[aG t]))) 3 1)]).bind λ nQ=>aUA T0 R0 aG aO T1 R1 aM T2 R2 bE T3 R3 bS T4 R4 dG T5 R5 fE fu k (aG t) (dG jJ) (dG nQ) (dG nQ) 2:=by kernel_rfl
def PJ (v1:Int) (s13:List UInt8):St:={ tm:=[(1,.int .i64 v1),(13,.str s13)],hp:=[],nx:=0,sz:=74 }
theorem aC3 {β:Type} (fu:Nat) (G:FG β) (H:FH β) (v1:Int) (s8:Str) (s11 s12 s13:List UInt8) (mB:Int):fV prog (Mm T0 R0 aG aO T1 R1 aM T2 R2 bE T3 R3 bS T4 R4 dG T5 R5 fE) fu Sc G H (J6 v1 s8 s11 s12 s13 mB)=bif decide ((s13.length:Int) < v1) then (R5 [.str s11,.str s12]).bind λ t=>(R1 [.int .u8 mB]).bind λ bY=>(R4 [.s (.dat (.strs ([fE t]++([aM bY]++[s8]))) 3 1)]).bind λ t=>bif decide (s13.length+(dG t).length <= 9223372036854775807) then G (some (J6 v1 s8 s11 (dG t) (s13++dG t) (u8.wrap (mB+1)))) else none else H (Ex.exit 0) (some (PJ v1 s13)):=by kernel_rfl
theorem aFT (fu:Nat) (v1:Int) (s13:List UInt8):Sd T0 R0 aG aO T1 R1 aM T2 R2 bE T3 R3 bS T4 R4 dG T5 R5 fE fu  (Ex.exit 0) (PJ v1 s13)=bif decide ((0:Int) <= 0 /\ 0 <= v1 /\ v1 <= (s13.length:Int)) then some (AV.tup [.s (.pl (.str (sl s13 0 v1))),.s (.pl (.int .i64 0))]) else none:=by kernel_rfl
end
section
variable (T0:Type) (R0:FA T0) (aG:T0->List UInt8) (T1:Type) (R1:FA T1) (aM:T1->List UInt8)
def Ae:Cg:=⟨⟨cV [(178,⟨R0,λ t=>AV.str (aG t)⟩),(177,⟨R1,λ t=>AV.str (aM t)⟩)],[],cX⟩,[(7,[1,7,8,9,10,11],[1,10]),(11,[1,7,8,9,10,11,12,13],[1,7,8,10,11,12])]⟩
def Gv (v1:Int) (s7:Str) (s8 s9 s10:List UInt8) (fN:Int):St:={ tm:=[(1,.int .i64 v1),(7,.str s7),(8,.str s8),(9,.str s9),(10,.str s10),(11,.int .i64 fN)],hp:=[],nx:=0,sz:=75 }
def DE:Code:=cN (bN [1,1,1,1,1,0,1,2] (bB Tryz.f145))
def J7 (fu:Nat):=mD prog (Ae T0 R0 aG T1 R1 aM) fu [1,1,1,1,1,0,1,2] (bB Tryz.f145) (gI prog Tryz.f145)
abbrev aC4 (fu:Nat) (v1:Int) (s7:Str) (s8 s9 s10:List UInt8) (fN:Int):=eV prog (Ae T0 R0 aG T1 R1 aM) fu DE (J7 T0 R0 aG T1 R1 aM fu ) fu (some (Gv v1 s7 s8 s9 s10 fN))
theorem aUC (fu:Nat) (d:Str) (k:Int) (m:Str):aS prog Tryz.f145 (Ae T0 R0 aG T1 R1 aM) fu [.str d,.int .i64 k,.str m]=bif decide (List.length d+1 <= 9223372036854775807) then bif decide (128+List.length m <= 9223372036854775807) then (R0 [.int .i64 k]).bind λ t=>bif decide (List.length (List.map b8 (List.replicate 128 0)++m)+(aG t).length <= 9223372036854775807) then bif decide (List.length (List.map b8 (List.replicate 128 0)++m++aG t)+1 <= 9223372036854775807) then bif decide (List.length (List.map b8 (List.replicate 128 0)++m++aG t++[(0:UInt8)])+List.length (d++List.map b8 [u8.wrap (↑(List.length d):Int)]) <= 9223372036854775807) then (R1 [.str (List.map b8 (List.replicate 128 0)++m++aG t++[(0:UInt8)]++(d++List.map b8 [u8.wrap (↑(List.length d):Int)]))]).bind λ t=>bif decide ((aM t).length+1 <= 9223372036854775807) then bif decide (List.length (aM t++[(1:UInt8)])+List.length (d++List.map b8 [u8.wrap (↑(List.length d):Int)]) <= 9223372036854775807) then (R1 [.str (aM t++[(1:UInt8)]++(d++List.map b8 [u8.wrap (↑(List.length d):Int)]))]).bind λ bY=>aC4 T0 R0 aG T1 R1 aM fu k (d++List.map b8 [u8.wrap (↑(List.length d):Int)]) (aM t) (aM bY) (aM bY) 2 else none else none else none else none else none else none else none:=by kernel_rfl
def J8 (v1:Int) (s7:Str) (s8 s9 s10:List UInt8) (fN:Int) (n12:Nat) (oM:Int) (fL:Nat) (aQ:List Int):St:={ tm:=[(1,.int .i64 v1),(7,.str s7),(8,.str s8),(9,.str s9),(10,.str s10),(11,.int .i64 fN),(12,.s (.own 0 n12 1)),(13,.int .i64 oM)],hp:=[(0,{ ty:=5,n:=fL,row:=Row.t (.ints .u8 aQ) })],nx:=1,sz:=75 }
def Se:Code:=cN (bN [1,1,1,1,1,0,1,2,6,1,0,2,1,0,1,2] (bB Tryz.f145))
def J9 {β:Type} (fu:Nat) (G:FG β) (H:FH β):=mD prog (Ae T0 R0 aG T1 R1 aM) fu [1,0,2,1,0,1,2] DE (wD (Ae T0 R0 aG T1 R1 aM) DE G H)
abbrev aUD {β:Type} (fu:Nat) (G:FG β) (H:FH β) (v1:Int) (s7:Str) (s8 s9 s10:List UInt8) (fN:Int) (n12:Nat) (oM:Int) (fL:Nat) (aQ:List Int):=eV prog (Ae T0 R0 aG T1 R1 aM) fu Se (J9 T0 R0 aG T1 R1 aM fu G H) fu (some (J8 v1 s7 s8 s9 s10 fN n12 oM fL aQ))
def PL (v1:Int) (s10:List UInt8):St:={ tm:=[(1,.int .i64 v1),(10,.str s10)],hp:=[],nx:=0,sz:=75 }
theorem aC5 {β:Type} (fu:Nat) (G:FG β) (H:FH β) (v1:Int) (s7:Str) (s8 s9 s10:List UInt8) (fN:Int):fV prog (Ae T0 R0 aG T1 R1 aM) fu DE G H (Gv v1 s7 s8 s9 s10 fN)=bif decide ((s10.length:Int) < v1) then aUD T0 R0 aG T1 R1 aM fu G H v1 s7 s8 s9 s10 fN 64 0 64 (List.replicate 64 0) else H (Ex.exit 0) (some (PL v1 s10)):=by kernel_rfl
def H4 (v1:Int) (s7:Str) (s8 s10:List UInt8) (fN:Int) (n12 fL:Nat) (aQ:List Int):St:={ tm:=[(1,.int .i64 v1),(7,.str s7),(8,.str s8),(10,.str s10),(11,.int .i64 fN),(12,.s (.own 0 n12 1))],hp:=[(0,{ ty:=5,n:=fL,row:=Row.t (.ints .u8 aQ) })],nx:=1,sz:=75 }
theorem aC6 {β:Type} (fu:Nat) (G:FG β) (H:FH β) (v1:Int) (s7:Str) (s8 s9 s10:List UInt8) (fN:Int) (n12:Nat) (oM:Int) (fL:Nat) (aQ:List Int):fV prog (Ae T0 R0 aG T1 R1 aM) fu Se G H (J8 v1 s7 s8 s9 s10 fN n12 oM fL aQ)=bif decide (oM < 64) then bif decide (0 <= oM /\ oM < (s8.length:Int)) then bif decide (0 <= oM /\ oM < (s9.length:Int)) then bif decide (0 <= oM /\ oM < (n12:Int)) then G (some (J8 v1 s7 s8 s9 s10 fN n12 (i64.wrap (oM+1)) fL (aQ.set oM.toNat (gG .u8 (↑(s8.getD oM.toNat (0:UInt8)).toNat:Int) (↑(s9.getD oM.toNat (0:UInt8)).toNat:Int))))) else none else none else none else H (Ex.exit 2) (some (H4 v1 s7 s8 s10 fN n12 fL aQ)):=by kernel_rfl
theorem aFU (fu:Nat) (v1:Int) (s10:List UInt8):J7 T0 R0 aG T1 R1 aM fu  (Ex.exit 0) (PL v1 s10)=bif decide ((0:Int) <= 0 /\ 0 <= v1 /\ v1 <= (s10.length:Int)) then some (AV.str (sl s10 0 v1)) else none:=by kernel_rfl
theorem aFV {β:Type} (fu:Nat) (G:FG β) (H:FH β) (v1:Int) (s7:Str) (s8 s10:List UInt8) (fN:Int) (n12 fL:Nat) (aQ:List Int):J9 T0 R0 aG T1 R1 aM fu G H (Ex.exit 2) (H4 v1 s7 s8 s10 fN n12 fL aQ)=bif decide ((List.map b8 aQ).length+1 <= 9223372036854775807) then bif decide (List.length (List.map b8 aQ++List.map b8 [u8.wrap fN])+List.length s7 <= 9223372036854775807) then (R1 [.str (List.map b8 aQ++List.map b8 [u8.wrap fN]++s7)]).bind λ t=>bif decide (s10.length+(aM t).length <= 9223372036854775807) then G (some (Gv v1 s7 s8 (aM t) (s10++aM t) (i64.wrap (fN+1)))) else none else none else none:=by kernel_rfl
end
section
variable (T0:Type) (R0:FA T0) (aG:T0->Str) (aO:T0->Int) (T1:Type) (R1:FA T1) (T2:Type) (R2:FA T2) (bE:T2->List UInt8)
def aMX:Cg:=⟨⟨cV [(144,⟨R0,λ t=>AV.tup [.s (.pl (.str (aG t))),.s (.pl (.int .i64 (aO t)))]⟩),(58,⟨R1,λ t=>AV.bool (true)⟩),(145,⟨R2,λ t=>AV.str (bE t)⟩)],[],cX⟩,[]⟩
theorem aUE (fu:Nat):aS prog Tryz.f105 (aMX T0 R0 aG aO T1 R1 T2 R2 bE) fu []=(R0 [.str [(109:UInt8),97,114,107],.int .i64 64,.s (.dat (.strs [[(97:UInt8),98,99]]) 1 1)]).bind λ t=>(R1 []).bind λ bY=>bif decide (aO t=0) then (R2 [.str [(109:UInt8),97,114,107],.int .i64 64,.str [(97:UInt8),98,99]]).bind λ cJ=>some (AV.bool (decide (aG t=bE cJ))) else some (AV.bool false):=by kernel_rfl
end
section
variable (T0:Type) (R0:FA T0)
def aMY:Cg:=⟨⟨cV [(105,⟨R0,λ t=>AV.bool (true)⟩)],[],cX⟩,[]⟩
theorem aUF (fu:Nat):aS prog Tryz.f61 (aMY T0 R0) fu []=(R0 []).bind λ t=>some (AV.bool true):=by kernel_rfl
end
section
variable (T0:Type) (R0:FA T0) (aG:T0->List UInt8) (T1:Type) (R1:FA T1) (aM:T1->List UInt8)
def Mn:Cg:=⟨⟨cV [(80,⟨R0,λ t=>AV.s (.clo 125 [.str (aG t)] [])⟩),(125,⟨R1,λ t=>AV.str (aM t)⟩)],[],cX⟩,[(9,[1,2,8,9,10,11],[2,9])]⟩
def KA (s1:Str) (v2:Int) (s8_0 s9 s10:List UInt8) (fN:Int):St:={ tm:=[(1,.str s1),(2,.int .i64 v2),(8,.s (.clo 125 [.str s8_0] [])),(9,.str s9),(10,.str s10),(11,.int .u8 fN)],hp:=[],nx:=0,sz:=40 }
def Sf:Code:=cN (bN [1,1,1,1,0,1,2] (bB Tryz.f123))
def Sg (fu:Nat):=mD prog (Mn T0 R0 aG T1 R1 aM) fu [1,1,1,1,0,1,2] (bB Tryz.f123) (gI prog Tryz.f123)
abbrev aUG (fu:Nat) (s1:Str) (v2:Int) (s8_0 s9 s10:List UInt8) (fN:Int):=eV prog (Mn T0 R0 aG T1 R1 aM) fu Sf (Sg T0 R0 aG T1 R1 aM fu ) fu (some (KA s1 v2 s8_0 s9 s10 fN))
theorem aUH (fu:Nat) (k i:Str) (n:Int):aS prog Tryz.f123 (Mn T0 R0 aG T1 R1 aM) fu [.str k,.str i,.int .i64 n]=bif decide (n < 0) then some (AV.tup [.s (.pl (.str [])),.s (.pl (.int .i64 2))]) else bif decide (16320 < n) then some (AV.tup [.s (.pl (.str [])),.s (.pl (.int .i64 5))]) else (R0 [.str k]).bind λ t=>aUG T0 R0 aG T1 R1 aM fu i n (aG t) [] [] 1:=by kernel_rfl
def PM (v2:Int) (s9:List UInt8):St:={ tm:=[(2,.int .i64 v2),(9,.str s9)],hp:=[],nx:=0,sz:=40 }
theorem aC7 {β:Type} (fu:Nat) (G:FG β) (H:FH β) (s1:Str) (v2:Int) (s8_0 s9 s10:List UInt8) (fN:Int):fV prog (Mn T0 R0 aG T1 R1 aM) fu Sf G H (KA s1 v2 s8_0 s9 s10 fN)=bif decide ((s9.length:Int) < v2) then (R1 [.str s8_0,.s (.dat (.strs ([s10]++([s1]++[List.map b8 [fN]]))) 3 1)]).bind λ t=>bif decide (s9.length+(aM t).length <= 9223372036854775807) then G (some (KA s1 v2 s8_0 (s9++aM t) (aM t) (u8.wrap (fN+1)))) else none else H (Ex.exit 1) (some (PM v2 s9)):=by kernel_rfl
theorem aFW (fu:Nat) (v2:Int) (s9:List UInt8):Sg T0 R0 aG T1 R1 aM fu  (Ex.exit 1) (PM v2 s9)=bif decide ((0:Int) <= 0 /\ 0 <= v2 /\ v2 <= (s9.length:Int)) then some (AV.tup [.s (.pl (.str (sl s9 0 v2))),.s (.pl (.int .i64 0))]) else none:=by kernel_rfl
end
section
variable (T0:Type) (R0:FA T0) (aG:T0->Str) (aO:T0->Int)
def aMZ:Cg:=⟨⟨cV [(123,⟨R0,λ t=>AV.tup [.s (.pl (.str (aG t))),.s (.pl (.int .i64 (aO t)))]⟩)],[],cX⟩,[]⟩
theorem aUI (fu:Nat) (k l c:Str) (n:Int):aS prog Tryz.f79 (aMZ T0 R0 aG aO) fu [.str k,.str l,.str c,.int .i64 n]=bif decide (7+List.length l <= 9223372036854775807) then bif decide (255 < (↑(List.length ([(79:UInt8),80,65,81,85,69,45]++l)):Int)) then some (AV.tup [.s (.pl (.str [])),.s (.pl (.int .i64 5))]) else bif decide (255 < (↑(List.length c):Int)) then some (AV.tup [.s (.pl (.str [])),.s (.pl (.int .i64 5))]) else bif decide (3+List.length ([(79:UInt8),80,65,81,85,69,45]++l) <= 9223372036854775807) then bif decide (List.length (List.map b8 ([u8.wrap (eJ .i64 n 8)]++([u8.wrap n]++[u8.wrap (↑(List.length ([(79:UInt8),80,65,81,85,69,45]++l)):Int)]))++([(79:UInt8),80,65,81,85,69,45]++l))+1 <= 9223372036854775807) then bif decide (List.length (List.map b8 ([u8.wrap (eJ .i64 n 8)]++([u8.wrap n]++[u8.wrap (↑(List.length ([(79:UInt8),80,65,81,85,69,45]++l)):Int)]))++([(79:UInt8),80,65,81,85,69,45]++l)++List.map b8 [u8.wrap (↑(List.length c):Int)])+List.length c <= 9223372036854775807) then (R0 [.str k,.str (List.map b8 ([u8.wrap (eJ .i64 n 8)]++([u8.wrap n]++[u8.wrap (↑(List.length ([(79:UInt8),80,65,81,85,69,45]++l)):Int)]))++([(79:UInt8),80,65,81,85,69,45]++l)++List.map b8 [u8.wrap (↑(List.length c):Int)]++c),.int .i64 n]).bind λ t=>some (AV.tup [.s (.pl (.str (aG t))),.s (.pl (.int .i64 (aO t)))]) else none else none else none else none:=by kernel_rfl
end
section
variable (T0:Type) (R0:FA T0) (aG:T0->Str) (aO:T0->Int)
def aM0:Cg:=⟨⟨cV [(79,⟨R0,λ t=>AV.tup [.s (.pl (.str (aG t))),.s (.pl (.int .i64 (aO t)))]⟩)],[],cX⟩,[]⟩
theorem aUJ (fu:Nat) (k l c:Str):aS prog Tryz.f42 (aM0 T0 R0 aG aO) fu [.str k,.str l,.str c]=(R0 [.str k,.str l,.str c,.int .i64 64]).bind λ t=>some (AV.str (aG t)):=by kernel_rfl
end
section
variable (T0:Type) (R0:FA T0)
def aM1:Cg:=⟨⟨cV [(23,⟨R0,λ t=>AV.bool (true)⟩)],[],cX⟩,[]⟩
theorem aUK (fu:Nat):aS prog Tryz.f11 (aM1 T0 R0) fu []=(R0 []).bind λ t=>some (AV.bool true):=by kernel_rfl
end
abbrev aC8:Cg:=Ml 
theorem aM2:CfOk prog aC8.c:=gk <| aH
abbrev aUL:Cg:=aMU 
theorem aM3:CfOk prog aUL.c:=gk <| aH
abbrev aUM:Cg:=aMV 
theorem aM4:CfOk prog aUM.c:=gk <| aH
abbrev aUN:Cg:=aMW (List Nat) SI (λ t=>up t)
theorem aM5:CfOk prog aUN.c:=gk <| aA EZ <| aH
def ZU (a b:Str):List Int:=List.zipWith (λ x y=>((x.toNat ^^^ y.toNat:Nat):Int)) a b
theorem aC9 (a b:Str):(ZU a b).map b8=Ek a b:=List.map_zipWith
theorem WK (a b:Str):(ZU a b).length=min a.length b.length:=List.length_zipWith
theorem WL (a b:Str):(Ek a b).length=min a.length b.length:=List.length_zipWith
theorem PN (a b:Str) (i:Nat) (ha:i < a.length) (hb:i < b.length):(ZU a b).getD i 0=(((a.getD i 0).toNat ^^^ (b.getD i 0).toNat:Nat):Int):=by
 simp only [ZU,jM,List.getElem?_zipWith,jZ ha,jZ hb];rfl
theorem aM6 (R:List Int) (N i:Nat) (hN:R.length=N) (hi:i < N):(R.take i++List.replicate (N - i) 0).set i (R.getD i 0)=R.take (i+1)++List.replicate (N - (i+1)) 0:=by
 have e:R.take (i+1)=R.take i++[R.getD i 0]:=by
  rw [x9,jZ (by omega),jM,jZ (by omega)]; rfl
 have hl:(R.take i).length=i:=by rw [dH]; omega
 rw [e,Aq _ _ (by rw [hl]; omega),hl,iL,show N - i=N - (i+1)+1 by omega,x8,u5,iO]; rfl
theorem aUO (a b:Str) (ha:a.length <= 1099511620000) (hb:b.length <= 1099511620000) (N m fu:Nat) (hN:N=min a.length b.length):∀ (d n i:Nat),i+d=N->d < n ->
  eV prog aC8 fu Sa (Sb fu) n (some (J5 a b N (N:Int) (i:Int) m ((ZU a b).take i++List.replicate (N - i) 0)))=some (.str (Ek a b)):=by
 have hR:=WK a b;intro d
 induction d with
 | zero=>
  intro n i hi hn;obtain ⟨n,rfl⟩:=aP (by omega:n ≠ 0);have e:i=N:=by omega
  rw [aF,aC2,aJ (by omega),aE,aR,aFS,e,iL,sJ,jC,d9 (by omega),aC9]
 | succ d ih=>
  intro n i hi hn;obtain ⟨n,rfl⟩:=aP (by omega:n ≠ 0);have h:=ih n (i+1) (by omega) (by omega);have g:=PN a b i (by omega) (by omega);rw [aF,aC2,aD (by omega),aB,aD (by omega),aB,aD (by omega),aB,aD (by omega),aB,bD,bDN _ _ (a.getD i 0).toNat_lt (b.getD i 0).toNat_lt,<-g,aM6 _ N i (by omega) (by omega),bW (by omega) (by omega)];exact h
theorem bHW (a b:Nat):(if ((b:Nat):Int) < (a:Int) then (b:Int) else (a:Int))=((min a b:Nat):Int):=by split <;> omega
theorem bFB:CallOk prog 176 aUq:=by
 refine aZ (fu:=λ args=>match args with | [.c (.s (.pl (.str a))),.c (.s (.pl (.str b)))]=>min a.length b.length+1 | _=>0) aM2 Tryz.func176 ?_;intro args t ht;unfold aUq at ht;simp only at ht;split at ht
 ·rename_i a b;obtain ⟨h1,h2⟩:=bO ht;subst h2;rw [aW] at h1;have ha:=B9 h1.1;have hb:=B9 h1.2;refine (aUw ..).trans ?_;rw [bHW,aD (by omega),aB,bD];exact aUO a b ha hb (min a.length b.length) (min a.length b.length*1) (min a.length b.length+1) rfl (min a.length b.length) (min a.length b.length+1) 0 (by omega) (lH _)
 ·cases ht
theorem aUP {a b:Str} (ha:gJ a=true) (hb:gJ b=true):aUr [.str a,.str b]=some (Ek a b):=by
 have e:(gJ a && gJ b)=true:=by rw [ha,hb]; rfl
 simp only [aUr,aUq,e,aB]
theorem aUQ:CallOk prog 173 aC0:=by
 refine fO aM3 Tryz.func173 ?_;intro args t ht;unfold aC0 at ht;simp only at ht;split at ht
 ·rename_i a;obtain ⟨h1,h2⟩:=bO ht;subst h2;have ha:=B9 h1;refine (aUx ..).trans ?_;unfold Iy;by_cases c:255 < a.length
  ·rw [aD (by omega),aB,aX c]; rfl
  ·rw [aJ (by omega),aE,aV c];by_cases c2:a=[]
   ·rw [aD c2,aB,aX c2]; rfl
   ·rw [aJ c2,aE,aV c2,aD (by omega),aB,qD]; rfl
 ·cases ht
theorem aM7 {a:Str} (ha:gJ a=true):aC1 [.str a]=some (Iy a):=by
 simp only [aC1,aC0,ha,aB]
theorem aUR:CallOk prog 174 aMR:=by
 refine fO aM4 Tryz.func174 ?_;intro args t ht;unfold aMR at ht;simp only at ht;split at ht
 ·cases ht; exact aUy ..
 ·cases ht
theorem aUS:CallOk prog 175 PH:=by
 refine fO aM5 Tryz.func175 ?_;intro args t ht;unfold PH at ht;simp only at ht;split at ht
 ·rename_i ss n;obtain ⟨h1,h2⟩:=bO ht;subst h2;refine (aUz ..).trans ?_;rw [xP h1,aC,gL,d9 (by rw [Ad,wK]; exact bX _)]; rfl
 ·cases ht
theorem CS (n:Int):aMS [.int .u8 n]=some [b8 n]:=rfl
theorem WM {ss:List Str} {n:Nat} (h:nZ ss n=true):CR [.s (.dat (.strs ss) n 1)]=some (hS (Lib.join ss [])):=by
 simp only [CR,PH,h,aB]
theorem uZ (f:Nat->Str) (k:Nat):jD f (k+1)=jD f k++f k:=by
 unfold jD;rw [List.range_succ,rP,List.flatten_append];simp
theorem kU (f:Nat->Str) (h:∀ i,(f i).length=64):∀ k,(jD f k).length=64*k:=by
 intro k
 induction k with
 | zero=>rfl
 | succ k ih=>rw [uZ,cD,ih,h]; omega
theorem Af (d:Str) (n:Nat) (m:Str) (i:Nat):(xB d n m i).length=64:=by cases i <;> exact pY _
theorem Mo (k info:Str) (i:Nat):(eB k info i).length=64:=by cases i <;> exact Od _ _
theorem aYk (a b c:Str):Lib.join ([a]++([b]++[c])) []=a++(b++c):=by rw [zM]; simp
theorem bHX (a b c d e f:Str):Lib.join ([a]++([b]++([c]++([d]++([e]++[f]))))) []=a++(b++(c++(d++(e++f)))):=by rw [zM]; simp
theorem PO {a b c:Str} (h:a.length+b.length+c.length <= 1099511627776):CR [.s (.dat (.strs ([a]++([b]++[c]))) 3 1)]=some (hS (a++(b++c))):=by
 have j:=aYk a b c;have:=WM (ss:=[a]++([b]++[c])) (n:=3) (zN rfl (by simp) (by rw [j,cD,cD]; omega));rw [this,j]
theorem aFX {a b c d e f:Str} (h:a.length+b.length+c.length+d.length+e.length+f.length <= 1099511627776):CR [.s (.dat (.strs ([a]++([b]++([c]++([d]++([e]++[f])))))) 6 1)]=some (hS (a++(b++(c++(d++(e++f)))))):=by
 have j:=bHX a b c d e f;have:=WM (ss:=[a]++([b]++([c]++([d]++([e]++[f]))))) (n:=6) (zN rfl (by simp) (by rw [j]; simp only [cD]; omega));rw [this,j]
abbrev aDa:Cg:=Mm (Str × Int) aC1 (λ t=>t.fst) (λ t=>t.snd) (List UInt8) aMS (λ t=>t) (List UInt8) oB (λ t=>t) (List UInt8) Dv (λ t=>t) (List UInt8) CR (λ t=>t) (List UInt8) aUr (λ t=>t)
theorem aM8:CfOk prog aDa.c:=gk <| aA aUQ <| aA aUR <| aA HU <| aA aAJ <| aA aUS <| aA bFB <| aH
theorem Ah (n:Nat):(pH n).length=1:=rfl
theorem aUT (d:Str) (hd:d.length <= 255) (k:Nat) (hk:k <= 16320) (m:Str) (fu:Nat):∀ (e n j:Nat),j+1+e=uY k->e < n ->
  eV prog aDa fu Sc (Sd _ aC1 (λ t=>t.1) (λ t=>t.2) _ aMS (λ t=>t) _ oB (λ t=>t) _ Dv (λ t=>t) _ CR (λ t=>t) _ aUr (λ t=>t) fu) n
   (some (J6 (k:Int) (d++pH d.length) (iC d k m) (xB d k m j) (jD (xB d k m) (j+1)) (((j+2)%256:Nat):Int)))=some (.tup [.s (.pl (.str (BC d k m))),.s (.pl (.int .i64 0))]):=by
 have hf:(iC d k m).length=64:=pY _;intro e
 induction e with
 | zero=>
  intro n j hj hn;obtain ⟨n,rfl⟩:=aP (by omega:n ≠ 0);have hb:=kU (xB d k m) (Af d k m) (j+1);unfold uY at hj;rw [aF,aC3,aJ (by omega),aE,aR,aFT,aD (by omega),aB,BC,show uY k=j+1 from hj.symm];have:sl (jD (xB d k m) (j+1)) 0 (k:Int)=(jD (xB d k m) (j+1)).take k:=by rw [sl]; simp
  rw [this]
 | succ e ih=>
  intro n j hj hn;obtain ⟨n,rfl⟩:=aP (by omega:n ≠ 0);have hb:=kU (xB d k m) (Af d k m) (j+1);have h:=ih n (j+1) (by omega) (by omega);have hx:=WL (iC d k m) (xB d k m j);have hl:=Af d k m j;have hl':=Af d k m (j+1);unfold uY at hj;have step:hS (Ek (iC d k m) (xB d k m j)++(pH (j+2)++(d++pH d.length)))=xB d k m (j+1):=rfl;rw [aF,aC3,aD (by omega),aB,aUP (VL (by omega)) (VL (by omega)),aC,CS,aC];show (CR [AV.s (.dat (.strs ([Ek (iC d k m) (xB d k m j)]++([pH (j+2)]++[d++pH d.length]))) 3 1)]).bind _=_;rw [PO (by rw [cD,Ah,Ah]; omega),aC,step,aD (by omega),aB];rw [uZ] at h;have w:u8.wrap ((((j+2)%256:Nat):Int)+1)=(((j+1+2)%256:Nat):Int):=by
   rw [show (((j+2)%256:Nat):Int)+1=(((j+2)%256+1:Nat):Int) by omega,qD];omega
  rw [w];exact h
theorem aM9:CallOk prog 144 aUs:=by
 refine aZ (fu:=λ _=>300) aM8 Tryz.func144 ?_;intro args t ht;unfold aUs at ht;simp only at ht;split at ht
 ·rename_i d k ss n;obtain ⟨h1,h2⟩:=bO ht;subst h2;rw [aW] at h1;have hd:=B9 h1.1;obtain ⟨e1,l1,l2⟩:=aKN h1.2;refine (aUB ..).trans ?_;unfold ZS;by_cases c:k < 1 ∨ 16320 < k
  ·rw [aX c,show (decide (k < 1) || decide (16320 < k))=true by rw [<-Bool.decide_or]; exact aD c,aB]; rfl
  ·rw [aV c,show (decide (k < 1) || decide (16320 < k))=false by rw [<-Bool.decide_or]; exact aJ c,aE,aM7 h1.1,aC];by_cases c2:(Iy d).2=0
   ·rw [aD c2,iD,aE,aV (λ h=>h c2)];have hm:(Iy d).1=d++pH d.length /\ d.length <= 255:=by
     unfold Iy at c2 ⊢;split at c2
     ·cases c2
     ·rename_i h;split at c2
      ·cases c2
      ·rename_i h';rw [aV h,aV h'];exact ⟨rfl,by omega⟩
    obtain ⟨q,rfl⟩:=bZ (by omega:0 <= k);have r1:oB [.str [0],.int .i64 128]=some (Lib.repeatL [0] 128):=AS [0] 128 (by decide) (by decide);have j0:Dv [.s (.dat (.strs ss) n 1),.str []]=some (Lib.join ss []):=VQ (by rw [e1]; exact zN rfl (by omega) (by omega));rw [r1,aC,j0,aC,CS,aC,CS,aC,CS,aC,hm.1,GJ,show (8:Int)=((8:Nat):Int) from rfl,Yl _ _ (by decide) (by omega),qD,qD];show (CR [AV.s (.dat (.strs ([List.replicate 128 0]++([Lib.join ss []]++([pH (q / 256)]++([pH q]++([[0]]++[d++pH d.length])))))) 6 1)]).bind _=_;rw [aFX (by simp only [cD,IE,Ah,wS]; omega),aC,CS,aC];rw [show hS (List.replicate 128 0++(Lib.join ss []++(pH (q / 256)++(pH q++([0]++(d++pH d.length))))))=iC d q (Lib.join ss []) from rfl];have hf:(iC d q (Lib.join ss [])).length=64:=pY _;show (CR [AV.s (.dat (.strs ([iC d q (Lib.join ss [])]++([[1]]++[d++pH d.length]))) 3 1)]).bind _=_;rw [PO (by simp only [cD,Ah,wS]; omega),aC];have:=aUT d hm.2 q (by omega) (Lib.join ss []) 300 (uY q - 1) 300 0 (by unfold uY; omega) (by unfold uY; omega);exact this
   ·rw [aJ c2,jB,aB,aX c2]; rfl
 ·cases ht
theorem aDb {d:Str} {k:Int} {ss:List Str} {n:Nat} (h:gJ d=true) (h2:VF ss n=true):aUt [.str d,.int .i64 k,.s (.dat (.strs ss) n 1)]=some (ZS d k (Lib.join ss [])):=by
 have e:(gJ d && VF ss n)=true:=by rw [h,h2]; rfl
 simp only [aUt,aUs,e,aB]
abbrev KB:Cg:=Ae (List UInt8) Ii (λ t=>t) (List UInt8) GK (λ t=>t)
theorem aNa:CfOk prog KB.c:=gk <| aA bDU <| aA aSM <| aH
theorem aNb {β:Type} (d:Str) (k:Nat) (b0 b out:Str) (h0:b0.length=64) (hb:b.length=64) (v:Int) (mk:Str) (fu m:Nat) (G:FG β) (H:FH β):∀ (e n i:Nat),i+e=64->e < n ->
  eV prog KB fu Se (J9 _ Ii (λ t=>t) _ GK (λ t=>t) fu G H) n (some (J8 (k:Int) mk b0 b out v 64 (i:Int) m ((ZU b0 b).take i++List.replicate (64 - i) 0))) =
   J9 _ Ii (λ t=>t) _ GK (λ t=>t) fu G H (.exit 2) (H4 (k:Int) mk b0 out v 64 m (ZU b0 b)):=by
 have hR:=WK b0 b;intro e
 induction e with
 | zero=>
  intro n i hi hn;obtain ⟨n,rfl⟩:=aP (by omega:n ≠ 0);have e:i=64:=by omega
  subst e;rw [aF,aC6,aJ (by decide),aE,aR,iL,sJ,jC,d9 (by omega)]
 | succ e ih=>
  intro n i hi hn;obtain ⟨n,rfl⟩:=aP (by omega:n ≠ 0);have h:=ih n (i+1) (by omega) (by omega);have g:=PN b0 b i (by omega) (by omega);rw [aF,aC6,aD (by omega),aB,aD (by omega),aB,aD (by omega),aB,aD (by omega),aB,bD,bDN _ _ (b0.getD i 0).toNat_lt (b.getD i 0).toNat_lt,<-g,aM6 _ 64 i (by omega) (by omega),bW (by omega) (by omega)];exact h
theorem aUU (d:Str) (hd:d.length <= 255) (k:Nat) (hk:k <= 16320) (m:Str) (fu:Nat) (hfu:64 < fu):∀ (e n j:Nat),j+1+e=uY k->e < n ->
  eV prog KB fu DE (J7 _ Ii (λ t=>t) _ GK (λ t=>t) fu) n
   (some (Gv (k:Int) (d++pH d.length) (iC d k m) (xB d k m j) (jD (xB d k m) (j+1)) ((j+2:Nat):Int)))=some (.str (BC d k m)):=by
 have hf:(iC d k m).length=64:=pY _;intro e
 induction e with
 | zero=>
  intro n j hj hn;obtain ⟨n,rfl⟩:=aP (by omega:n ≠ 0);have hb:=kU (xB d k m) (Af d k m) (j+1);unfold uY at hj;rw [aF,aC5,aJ (by omega),aE,aR,aFU,aD (by omega),aB,BC,show uY k=j+1 from hj.symm];have:sl (jD (xB d k m) (j+1)) 0 (k:Int)=(jD (xB d k m) (j+1)).take k:=by rw [sl]; simp
  rw [this]
 | succ e ih=>
  intro n j hj hn;obtain ⟨n,rfl⟩:=aP (by omega:n ≠ 0);have hb:=kU (xB d k m) (Af d k m) (j+1);have h:=ih n (j+1) (by omega) (by omega);have hx:=WL (iC d k m) (xB d k m j);have hl:=Af d k m j;have hl':=Af d k m (j+1);unfold uY at hj;have step:hS (Ek (iC d k m) (xB d k m j)++pH (j+2)++(d++pH d.length))=xB d k m (j+1):=by rw [iO]; rfl
  rw [aF,aC5,aD (by omega),aB];refine iW (aNb d k (iC d k m) (xB d k m j) (jD (xB d k m) (j+1)) hf hl _ (d++pH d.length) fu 64 _ _ 64 fu 0 (by omega) (by omega)) ?_;rw [aFV,aC9,qD];rw [aD (by omega),aB];show (bif decide (List.length (Ek (iC d k m) (xB d k m j)++pH (j+2))+List.length (d++pH d.length) <= 9223372036854775807) then (GK [AV.str (Ek (iC d k m) (xB d k m j)++pH (j+2)++(d++pH d.length))]).bind _ else none)=_;have hlen:(Ek (iC d k m) (xB d k m j)++pH (j+2)).length+(d++pH d.length).length <= 1000:=by
   simp only [cD,Ah]; omega
  rw [aD (by omega),aB,L7 (by rw [cD]; omega),aC];show (bif decide ((jD (xB d k m) (j+1)).length+(hS (Ek (iC d k m) (xB d k m j)++pH (j+2)++(d++pH d.length))).length <= _) then eV prog KB fu DE (J7 _ Ii (λ t=>t) _ GK (λ t=>t) fu) n (some (Gv (k:Int) (d++pH d.length) (iC d k m) (hS (Ek (iC d k m) (xB d k m j)++pH (j+2)++(d++pH d.length))) (jD (xB d k m) (j+1)++hS (Ek (iC d k m) (xB d k m j)++pH (j+2)++(d++pH d.length))) (i64.wrap (((j+2:Nat):Int)+1)))) else none)=_;rw [step,aD (by omega),aB,bW (by omega) (by omega)];rw [uZ] at h;exact h
theorem aNc (n:Nat):List.map b8 (List.replicate n (0:Int))=List.replicate n 0:=by rw [List.map_replicate]; rfl
theorem aFY:CallOk prog 145 J2:=by
 refine aZ (fu:=λ _=>300) aNa Tryz.func145 ?_;intro args t ht;unfold J2 at ht;simp only at ht;split at ht
 ·rename_i d k m;obtain ⟨h1,h2⟩:=bO ht;subst h2;rw [aW,bJ] at h1;have hm:=B9 h1.1;obtain ⟨q,rfl⟩:=bZ (by omega:0 <= k);refine (aUC ..).trans ?_;rw [aD (by omega),aB,aD (by omega),aB,aSN (n:=q) (by omega),aC,aNc,qD];have l1:(List.replicate 128 (0:UInt8)++m).length=128+m.length:=by rw [cD,IE]
  have l2:(d++List.map b8 [((d.length%256:Nat):Int)]).length=d.length+1:=by rw [cD]; rfl
  have e1:hS (List.replicate 128 0++m++CA q++[0]++(d++pH d.length))=iC d q m:=by
   rw [iC,show CA q=pH (q / 256)++pH q from rfl];simp only [iO]
  rw [aD (by rw [l1,GM]; omega),aB,aD (by rw [cD,l1,GM]; omega),aB,aD (by rw [cD,cD,l1,GM,l2]; simp; omega),aB,
   L7 (by simp only [cD,l1,GM,l2,wS,eZ,IE]; omega),aC]
  show (bif decide ((hS (List.replicate 128 0++m++CA q++[0]++(d++pH d.length))).length+1 <= 9223372036854775807) then (bif decide (List.length (hS (List.replicate 128 0++m++CA q++[0]++(d++pH d.length))++[1])+List.length (d++pH d.length) <= 9223372036854775807) then (GK [AV.str (hS (List.replicate 128 0++m++CA q++[0]++(d++pH d.length))++[1]++(d++pH d.length))]).bind (λ t=>aC4 _ Ii (λ t=>t) _ GK (λ t=>t) 300 (q:Int) (d++pH d.length) (hS (List.replicate 128 0++m++CA q++[0]++(d++pH d.length))) t t 2) else none) else none)=_;rw [e1];have hf:(iC d q m).length=64:=pY _;have l3:(d++pH d.length).length=d.length+1:=by rw [cD,Ah]
  rw [aD (by omega),aB,aD (by rw [cD,l3,hf]; simp; omega),aB,L7 (by rw [cD,cD,l3,hf]; simp; omega),aC];have e2:((up (Gh (iC d q m++[1]++(d++pH d.length)))).map b8)=xB d q m 0:=by
   rw [iO]; rfl
  rw [e2];have:=aUU d h1.2.1 q (by omega) m 300 (by decide) (uY q - 1) 300 0 (by unfold uY; omega) (by unfold uY; omega);exact this
 ·cases ht
theorem ZV {d m:Str} {k:Int} (h:gJ m=true) (h2:d.length <= 255) (h3:1 <= k) (h4:k <= 16320):SX [.str d,.int .i64 k,.str m]=some (BC d k.toNat m):=by
 have e:(gJ m && decide (d.length <= 255 /\ 1 <= k /\ k <= 16320))=true:=by rw [h,aD ⟨h2,h3,h4⟩]; rfl
 simp only [SX,J2,e,aB]
abbrev aUV:Cg:=aMX (Str × Int) aUt (λ t=>t.fst) (λ t=>t.snd) (PUnit) gM (List UInt8) SX (λ t=>t)
theorem aNd:CfOk prog aUV.c:=gk <| aA aM9 <| aA Ln <| aA aFY <| aH
theorem ZW:CallOk prog 105 gE:=by
 refine fO aNd Tryz.func105 ?_;intro args t ht;unfold gE at ht;simp only at ht;split at ht
 ·cases ht;refine (aUE ..).trans ?_;have e:ZS [109,97,114,107] 64 (Lib.join [[97,98,99]] [])=(BC [109,97,114,107] 64 [97,98,99],0):=by
   rw [Lib.join_one,ZS,aV (by omega),aV (by decide)]; rfl
  rw [aDb (by decide) (by decide),aC,show gM []=some () from rfl,aC,e];dsimp only;rw [aD (rfl:(0:Int)=0),aB,ZV (by decide) (by decide) (by decide) (by decide),aC];rw [show Int.toNat 64=64 from rfl,aD rfl]; rfl
 ·cases ht
abbrev aUW:Cg:=aMY (PUnit) gM
theorem aNe:CfOk prog aUW.c:=gk <| aA ZW <| aH
theorem ZX:CallOk prog 61 gE:=by
 refine fO aNe Tryz.func61 ?_;intro args t ht;unfold gE at ht;simp only at ht;split at ht
 ·cases ht;refine (aUF ..).trans ?_;rw [show gM []=some () from rfl,aC]; rfl
 ·cases ht
theorem bFC {ss:List Str} {n:Nat} (h1:n=ss.length) (h2:ss.length <= 1048000) (h3:(Lib.join ss []).length <= 1099511620000):VF ss n=true:=by
 subst h1;rw [VF,oH,lY h2,lY h3]; rfl
theorem Mp (d:Str) (n:Nat) (m:Str):(BC d n m).length=n:=by
 rw [BC,dH,kU _ (Af d n m)];unfold uY;omega
abbrev aDc:Cg:=Mn (List UInt8) VH (λ t=>t) (List UInt8) EY (λ t=>t)
theorem aNf:CfOk prog aDc.c:=gk <| aA aBK <| aA Lp <| aH
theorem Sh {s:Str} (h:BD s=true):s.length <= 1099511000000:=dA h
theorem aUX {s:Str} (h:s.length <= 1099511000000):BD s=true:=lY h
def Mq (f:Nat->Str):Nat->Str
 | 0=>[]
 | i+1=>f i
theorem aUY (k info:Str) (j:Nat):eB k info j=A7 k (Mq (eB k info) j++(info++pH (j+1))):=by
 cases j with
 | zero=>rw [Mq,lF]; rfl
 | succ j=>rfl
theorem aFZ (k info:Str) (j:Nat):(Mq (eB k info) j).length <= 64:=by
 cases j with
 | zero=>exact oI _
 | succ j=>exact Nat.le_of_eq (Mo k info j)
theorem aUZ (k info:Str) (hi:info.length <= 1099511000000) (q:Nat) (hq:q <= 16320) (fu:Nat):∀ (e n j:Nat),j+e=uY q->e < n ->
  eV prog aDc fu Sf (Sg _ VH (λ t=>t) _ EY (λ t=>t) fu) n
   (some (KA info (q:Int) (pX k) (jD (eB k info) j) (Mq (eB k info) j) (((j+1)%256:Nat):Int)))=some (.tup [.s (.pl (.str (aFR k info q))),.s (.pl (.int .i64 0))]):=by
 intro e
 induction e with
 | zero=>
  intro n j hj hn;obtain ⟨n,rfl⟩:=aP (by omega:n ≠ 0);have hb:=kU (eB k info) (Mo k info) j;unfold uY at hj;have e2:sl (jD (eB k info) j) 0 (q:Int)=(jD (eB k info) j).take q:=by rw [sl]; simp
  rw [aF,aC7,aJ (by omega),aE,aR,aFW,aD (by omega),aB,aFR,show uY q=j from hj.symm,e2]
 | succ e ih=>
  intro n j hj hn;obtain ⟨n,rfl⟩:=aP (by omega:n ≠ 0);have hb:=kU (eB k info) (Mo k info) j;have h:=ih n (j+1) (by omega) (by omega);have hl:=aFZ k info j;unfold uY at hj;have j3:=aYk (Mq (eB k info) j) info (pH (j+1));have le:=Mo k info j;rw [aF,aC7,aD (by omega),aB];show (EY [AV.str (pX k),AV.s (.dat (.strs ([Mq (eB k info) j]++([info]++[pH (j+1)]))) 3 1)]).bind _=_;rw [Oc (n:=3) (Lm k) (bFC rfl (by simp) (by rw [j3,cD,cD,Ah]; omega)),aC,j3,show VE (pX k) (Mq (eB k info) j++(info++pH (j+1)))=eB k info j from (aUY k info j).symm,aD (by omega),aB];rw [uZ] at h;have w:u8.wrap ((((j+1)%256:Nat):Int)+1)=(((j+1+1)%256:Nat):Int):=by
   rw [show (((j+1)%256:Nat):Int)+1=(((j+1)%256+1:Nat):Int) by omega,qD];omega
  rw [w];exact h
theorem aF0:CallOk prog 123 J3:=by
 refine aZ (fu:=λ _=>300) aNf Tryz.func123 ?_;intro args t ht;unfold J3 at ht;simp only at ht;split at ht
 ·rename_i k i n;obtain ⟨h1,h2⟩:=bO ht;subst h2;rw [aW] at h1;refine (aUH ..).trans ?_;unfold aUu;by_cases c:n < 0
  ·rw [aD c,aB,aX c]; rfl
  rw [aJ c,aE,aV c];by_cases c2:16320 < n
  ·rw [aD c2,aB,aX c2]; rfl
  obtain ⟨q,rfl⟩:=bZ (by omega:0 <= n);rw [aJ c2,aE,aV c2,VK h1.1,aC];exact aUZ k i (Sh h1.2) q (by omega) 300 (uY q) 300 0 (by omega) (by unfold uY; omega)
 ·cases ht
theorem ZY {k i:Str} {n:Int} (hk:gJ k=true) (hi:BD i=true):SY [.str k,.str i,.int .i64 n]=some (aUu k i n):=by
 have e:(gJ k && BD i)=true:=by rw [hk,hi]; rfl
 simp only [SY,J3,e,aB]
abbrev aU0:Cg:=aMZ (Str × Int) SY (λ t=>t.fst) (λ t=>t.snd)
theorem aNg:CfOk prog aU0.c:=gk <| aA aF0 <| aH
theorem aU1 (l:Str):(opq++l).length=7+l.length:=by rw [cD]; rfl
theorem aNh:CallOk prog 79 SZ:=by
 refine fO aNg Tryz.func79 ?_;intro args t ht;unfold SZ at ht;simp only at ht;split at ht
 ·rename_i k l c n;obtain ⟨h1,h2⟩:=bO ht;subst h2;simp only [aW,bJ] at h1;obtain ⟨⟨⟨hk,hl⟩,hc⟩,hn⟩:=h1;have hl':=Sh hl;have hc':=Sh hc;have ol:=aU1 l;refine (aUI ..).trans ?_;rw [show ([79,80,65,81,85,69,45]++l:Str)=opq++l from rfl];unfold k9;rw [aD (by omega),aB];by_cases c1:248 < l.length
  ·rw [aD (by omega),aB,aX (Or.inl c1)]; rfl
  rw [aJ (by omega),aE];by_cases c2:255 < c.length
  ·rw [aD (by omega),aB,aX (Or.inr c2)]; rfl
  rw [aJ (by omega),aE,aV (by omega),aD (by omega),aB,qD,qD];have ll:∀ a b:Int,(List.map b8 ([a]++([b]++[(((opq++l).length%256:Nat):Int)]))++(opq++l)).length=10+l.length:=λ a b=>by
   rw [cD,ol]; simp; omega
  rw [aD (by rw [ll]; omega),aB,aD (by rw [cD,ll]; simp; omega),aB];rw [ZY hk (aUX (by rw [cD,cD,ll]; simp; omega)),aC];unfold aUu;by_cases c3:n < 0
  ·rw [aX c3,aX c3]; rfl
  rw [aV c3,aV c3];by_cases c4:16320 < n
  ·rw [aX c4,aX c4]; rfl
  rw [aV c4,aV c4];obtain ⟨q,rfl⟩:=bZ (by omega:0 <= n);rw [bD,aMT,aYj,show (8:Int)=((8:Nat):Int) from rfl,Yl _ _ (by decide) (by omega),qD,qD];have e:List.map b8 ([((q / 2 ^ 8%256:Nat):Int)]++([((q%256:Nat):Int)]++[(((opq++l).length%256:Nat):Int)]))++(opq++l)++List.map b8 [((c.length%256:Nat):Int)]++c =
    CA q++(pH (opq++l).length++((opq++l)++(pH c.length++c))):=by
   simp only [iO,rP]; rfl
  rw [e]; rfl
 ·cases ht
theorem aF1 {k l c:Str} {n:Int} (hk:gJ k=true) (hl:BD l=true) (hc:BD c=true) (h0:-9223372036854775808 <= n) (h1:n < 9223372036854775808):ZT [.str k,.str l,.str c,.int .i64 n]=some (k9 k l c n):=by
 have e:(gJ k && BD l && BD c && decide (-9223372036854775808 <= n /\ n < 9223372036854775808))=true:=by rw [hk,hl,hc,aD ⟨h0,h1⟩]; rfl
 simp only [ZT,SZ,e,aB]
abbrev aU2:Cg:=aM0 (Str × Int) ZT (λ t=>t.fst) (λ t=>t.snd)
theorem aNi:CfOk prog aU2.c:=gk <| aA aNh <| aH
theorem aF2:CallOk prog 42 J4:=by
 refine fO aNi Tryz.func42 ?_;intro args t ht;unfold J4 at ht;simp only at ht;split at ht
 ·rename_i k l c;obtain ⟨h1,h2⟩:=bO ht;subst h2;simp only [aW] at h1;refine (aUJ ..).trans ?_;rw [aF1 h1.1.1 h1.1.2 h1.2 (by decide) (by decide),aC]; rfl
 ·cases ht
theorem Ai {k l c:Str} (hk:gJ k=true) (hl:BD l=true) (hc:BD c=true):Gu [.str k,.str l,.str c]=some (k9 k l c 64).1:=by
 have e:(gJ k && BD l && BD c)=true:=by rw [hk,hl,hc]; rfl
 simp only [Gu,J4,e,aB]
abbrev aU3:Cg:=aM1 (PUnit) gM
theorem aNj:CfOk prog aU3.c:=gk <| aA Yk <| aH
theorem ZZ:CallOk prog 11 gE:=by
 refine fO aNj Tryz.func11 ?_;intro args t ht;unfold gE at ht;simp only at ht;split at ht
 ·cases ht;refine (aUK ..).trans ?_;rw [show gM []=some () from rfl,aC]; rfl
 ·cases ht
theorem aNk (k i:Str) (n:Nat):(aFR k i n).length=n:=by
 rw [aFR,dH,kU _ (Mo k i)];unfold uY;omega
end
end Go.Eng
