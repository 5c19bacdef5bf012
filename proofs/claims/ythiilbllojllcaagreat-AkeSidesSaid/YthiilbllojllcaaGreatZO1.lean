import Derived.Test.YthiilbllojllcaaGreatZT7
import Derived.Test.YthiilbllojllcaaGreatZX1
namespace Go.Eng
open Go.IntKind (u64 i64 u8)
noncomputable section
open Go Go.Proofs
set_option linter.all false
def oS (a:List Int):Pt × Int:=cond (Nat.blt (vB a) aK && FW (fe (vB a))) (ptP (fe (vB a)),0) (dM,8)
def aI1:Summ:={ T:=Pt × Int,run:=Ax oS,enc:=ePE }
def aI2:FA (Pt × Int):=aI1.run
def kJ (a:List Int):Pt × Int:=cond (decide ((oS a).2=0) && pL (oS a).1 dM) ((oS a).1,9) (oS a)
def aI3:Summ:={ T:=Pt × Int,run:=Ax kJ,enc:=ePE }
def Xv:FA (Pt × Int):=aI3.run
abbrev Ha:Str:=[79,80,82,70,86,49,45,0,45,114,105,115,116,114,101,116,116,111,50,53,53,45,83,72,65,53,49,50]
abbrev NV:Str:=[72,97,115,104,84,111,71,114,111,117,112,45]
abbrev Xw:Str:=[70,105,110,97,108,105,122,101]
def aI4:Summ where
 T:=Unit
 run:=λ
  | []=>some ()
  | _=>none
 enc:=λ _=>.str Ha
def aW5:FA Unit:=aI4.run
def wY (s:Str):Pt:=(FT (BC (NV++Ha) 64 s)).1
def bB4:Summ where
 T:=Pt × Int
 run:=λ
  | [.c (.s (.pl (.str s)))]=>cond (Nat.ble s.length 65535) (some (wY s,0)) none
  | _=>none
 enc:=ePE
def bHa:FA (Pt × Int):=bB4.run
def uM (s:Str) (k:Nat):Int:=cond (Nat.ble s.length 65535) (cond (Nat.beq k 0) 9 0) 5
def UL {T:Type} (F:Str->Nat->T):FA T
 | [.c (.s (.pl (.str s))),.c (.s (.pl (.agg (.ints .u64 a) 8)))]=>cond (gK a && Nat.ble s.length 1099511620000) (some (F s (val a))) none
 | _=>none
def bHb:Summ:={ T:=Int,run:=UL uM,enc:=λ t=>.int .i64 t }
def bB5:FA Int:=bHb.run
def wA (s:Str) (k:Nat):Pt × Int :=
 cond (decide (uM s k=0)) (cond (pL (eY (wY s) (cU k 253)) dM) (dM,9) (eY (wY s) (cU k 253),0)) (dM,uM s k)
def aI5:Summ:={ T:=Pt × Int,run:=UL wA,enc:=ePE }
def aA5:FA (Pt × Int):=aI5.run
def EN (s:Str) (p:Pt):Str:=hS (qT [s,(lo 32 (fv (cW p)%aK)).map b8]++Xw)
def bB6:Summ where
 T:=Str
 run:=λ
  | [.c (.s (.pl (.str s))),.c (.s (.pl (.agg (.ints .u64 l) 20)))]=>match ptL l with
   | some p=>cond (Nat.ble s.length 65535) (some (EN s p)) none
   | none=>none
  | _=>none
 enc:=λ t=>.str t
def bB7:FA Str:=bB6.run
abbrev nE:List Int:=List.replicate 32 0
def gO (k:Nat) (b:List Int):List Int × Int :=
 cond (decide ((kJ b).2=0)) (cond (Nat.beq k 0) (nE,9) (lo 32 (fv (cW (eY (kJ b).1 (cU k 253)))%aK),0)) (nE,(kJ b).2)
def aI6:Summ where
 T:=List Int × Int
 run:=λ
  | [.c (.s (.pl (.agg (.ints .u64 a) 8))),.c (.s (.pl (.agg (.ints .u8 b) 32)))]=>cond (gK a && dP b) (some (gO (val a) b)) none
  | _=>none
 enc:=λ t=>.tup [.s (.pl (.agg (.ints .u8 t.1) 32)),.s (.pl (.int .i64 t.2))]
def aI7:FA (List Int × Int):=aI6.run
def aEt (s:Str) (k:Nat) (b:List Int):Str × Int :=
 cond (decide (uM s k=0)) (cond (decide ((kJ b).2=0)) (EN s (eY (kJ b).1 (cU (val (cM 8 (uN k 253 1))) 253)),0) ([],(kJ b).2)) ([],uM s k)
def eSE (t:Str × Int):AV:=.tup [.s (.pl (.str t.1)),.s (.pl (.int .i64 t.2))]
def bB8:Summ where
 T:=Str × Int
 run:=λ
  | [.c (.s (.pl (.str s))),.c (.s (.pl (.agg (.ints .u64 a) 8))),.c (.s (.pl (.agg (.ints .u8 b) 32)))]=>cond (gK a && (Nat.blt (val a) LN && dP b) && Nat.ble s.length 1099511620000) (some (aEt s (val a) b)) none
  | _=>none
 enc:=eSE
def bHc:FA (Str × Int):=bB8.run
def Hb (k:Nat) (s:Str):Str × Int:=cond (decide ((wA s k).2=0)) (EN s (wA s k).1,0) ([],(wA s k).2)
def bB9:Summ where
 T:=Str × Int
 run:=λ
  | [.c (.s (.pl (.agg (.ints .u64 a) 8))),.c (.s (.pl (.str s)))]=>cond (gK a && Nat.ble s.length 1099511620000) (some (Hb (val a) s)) none
  | _=>none
 enc:=eSE
def bHd:FA (Str × Int):=bB9.run
def aA6:Summ:={ T:=Nat,run:=Ax λ a=>vB a%LN,enc:=eW }
def aA7:FA Nat:=aA6.run
section
variable (T0:Type) (R0:FA T0) (aG:T0->List Int) (aO:T0->Int) (T1:Type) (R1:FA T1) (aM:T1->Bool)
def aW6:Cg:=⟨⟨cV [(131,⟨R0,λ t=>AV.tup [.s (.pl (.agg (.ints .u64 (aG t)) 20)),.s (.pl (.int .i64 (aO t)))]⟩),(132,⟨R1,λ t=>AV.bool (aM t)⟩)],[],cX⟩,[]⟩
theorem bCa (fu:Nat) (a:List Int):aS prog Tryz.f88 (aW6 T0 R0 aG aO T1 R1 aM) fu [.agg (.ints .u8 a) 32]=(R0 [.agg (.ints .u8 a) 32]).bind λ t=>bif decide (aO t=0) then (R1 [.agg (.ints .u64 (aG t)) 20]).bind λ bY=>bif aM bY then some (AV.tup [.s (.pl (.agg (.ints .u64 (aG t)) 20)),.s (.pl (.int .i64 9))]) else some (AV.tup [.s (.pl (.agg (.ints .u64 (aG t)) 20)),.s (.pl (.int .i64 (aO t)))]) else some (AV.tup [.s (.pl (.agg (.ints .u64 (aG t)) 20)),.s (.pl (.int .i64 (aO t)))]):=by kernel_rfl
end
def aW7:Cg:=⟨⟨cV [],[],cX⟩,[]⟩
theorem bCb (fu:Nat):aS prog Tryz.f182 aW7 fu []=some (AV.str [(79:UInt8),80,82,70,86,49,45,0,45,114,105,115,116,114,101,116,116,111,50,53,53,45,83,72,65,53,49,50]):=by kernel_rfl
section
variable (T0:Type) (R0:FA T0) (T1:Type) (R1:FA T1) (aM:T1->Str) (bK:T1->Int) (T2:Type) (R2:FA T2) (bE:T2->List Int) (T3:Type) (R3:FA T3) (bS:T3->List Int) (eX:T3->Int)
def aW8:Cg:=⟨⟨cV [(182,⟨R0,λ t=>AV.str (Ha)⟩),(144,⟨R1,λ t=>AV.tup [.s (.pl (.str (aM t))),.s (.pl (.int .i64 (bK t)))]⟩),(150,⟨R2,λ t=>AV.agg (.ints .u64 (bE t)) 20⟩),(183,⟨R3,λ t=>AV.tup [.s (.pl (.agg (.ints .u64 (bS t)) 20)),.s (.pl (.int .i64 (eX t)))]⟩)],[],cX⟩,[]⟩
theorem bCc (fu:Nat) (s:Str):aS prog Tryz.f151 (aW8 T0 R0 T1 R1 aM bK T2 R2 bE T3 R3 bS eX) fu [.str s]=(R0 []).bind λ t=>(R1 [.str ([(72:UInt8),97,115,104,84,111,71,114,111,117,112,45]++Ha),.int .i64 64,.s (.dat (.strs [s]) 1 1)]).bind λ t=>bif !decide (bK t=0) then (R2 []).bind λ bY=>some (AV.tup [.s (.pl (.agg (.ints .u64 (bE bY)) 20)),.s (.pl (.int .i64 (bK t)))]) else (R3 [.str (aM t)]).bind λ t=>some (AV.tup [.s (.pl (.agg (.ints .u64 (bS t)) 20)),.s (.pl (.int .i64 (eX t)))]):=by kernel_rfl
end
section
variable (T0:Type) (R0:FA T0) (aG:T0->Bool)
def aW9:Cg:=⟨⟨cV [(89,⟨R0,λ t=>AV.bool (aG t)⟩)],[],cX⟩,[]⟩
theorem bCd (fu:Nat) (s:Str) (a:List Int):aS prog Tryz.f110 (aW9 T0 R0 aG) fu [.str s,.agg (.ints .u64 a) 8]=bif decide (65535 < (↑(List.length s):Int)) then some (AV.int .i64 5) else (R0 [.agg (.ints .u64 a) 8]).bind λ t=>bif aG t then some (AV.int .i64 9) else some (AV.int .i64 0):=by kernel_rfl
end
section
variable (T0:Type) (R0:FA T0) (aG:T0->Int) (T1:Type) (R1:FA T1) (aM:T1->List Int) (T2:Type) (R2:FA T2) (bE:T2->List Int) (bU:T2->Int) (T3:Type) (R3:FA T3) (bS:T3->List Int) (T4:Type) (R4:FA T4) (dG:T4->Bool)
def aXa:Cg:=⟨⟨cV [(110,⟨R0,λ t=>AV.int .i64 (aG t)⟩),(150,⟨R1,λ t=>AV.agg (.ints .u64 (aM t)) 20⟩),(151,⟨R2,λ t=>AV.tup [.s (.pl (.agg (.ints .u64 (bE t)) 20)),.s (.pl (.int .i64 (bU t)))]⟩),(90,⟨R3,λ t=>AV.agg (.ints .u64 (bS t)) 20⟩),(132,⟨R4,λ t=>AV.bool (dG t)⟩)],[],cX⟩,[]⟩
theorem bCe (fu:Nat) (s:Str) (a:List Int):aS prog Tryz.f108 (aXa T0 R0 aG T1 R1 aM T2 R2 bE bU T3 R3 bS T4 R4 dG) fu [.str s,.agg (.ints .u64 a) 8]=(R0 [.str s,.agg (.ints .u64 a) 8]).bind λ t=>bif !decide (aG t=0) then (R1 []).bind λ bY=>some (AV.tup [.s (.pl (.agg (.ints .u64 (aM bY)) 20)),.s (.pl (.int .i64 (aG t)))]) else (R2 [.str s]).bind λ t=>bif !decide (bU t=0) then (R1 []).bind λ bY=>some (AV.tup [.s (.pl (.agg (.ints .u64 (aM bY)) 20)),.s (.pl (.int .i64 (bU t)))]) else (R3 [.agg (.ints .u64 (bE t)) 20,.agg (.ints .u64 a) 8]).bind λ t=>(R4 [.agg (.ints .u64 (bS t)) 20]).bind λ bY=>bif dG bY then (R1 []).bind λ t=>some (AV.tup [.s (.pl (.agg (.ints .u64 (aM t)) 20)),.s (.pl (.int .i64 9))]) else some (AV.tup [.s (.pl (.agg (.ints .u64 (bS t)) 20)),.s (.pl (.int .i64 0))]):=by kernel_rfl
end
section
variable (T0:Type) (R0:FA T0) (aG:T0->List Int) (aO:T0->Int)
def aXb:Cg:=⟨⟨cV [(108,⟨R0,λ t=>AV.tup [.s (.pl (.agg (.ints .u64 (aG t)) 20)),.s (.pl (.int .i64 (aO t)))]⟩)],[],cX⟩,[]⟩
theorem bCf (fu:Nat) (s:Str) (a:List Int):aS prog Tryz.f64 (aXb T0 R0 aG aO) fu [.str s,.agg (.ints .u64 a) 8]=(R0 [.str s,.agg (.ints .u64 a) 8]).bind λ t=>some (AV.tup [.s (.pl (.agg (.ints .u64 (aG t)) 20)),.s (.pl (.int .i64 (aO t)))]):=by kernel_rfl
end
section
variable (T0:Type) (R0:FA T0) (aG:T0->List Int) (aO:T0->Int) (T1:Type) (R1:FA T1) (aM:T1->Bool) (T2:Type) (R2:FA T2) (bE:T2->List Int) (T3:Type) (R3:FA T3) (bS:T3->List Int)
def aXc:Cg:=⟨⟨cV [(88,⟨R0,λ t=>AV.tup [.s (.pl (.agg (.ints .u64 (aG t)) 20)),.s (.pl (.int .i64 (aO t)))]⟩),(89,⟨R1,λ t=>AV.bool (aM t)⟩),(90,⟨R2,λ t=>AV.agg (.ints .u64 (bE t)) 20⟩),(14,⟨R3,λ t=>AV.agg (.ints .u8 (bS t)) 32⟩)],[],cX⟩,[]⟩
theorem bCg (fu:Nat) (a b:List Int):aS prog Tryz.f53 (aXc T0 R0 aG aO T1 R1 aM T2 R2 bE T3 R3 bS) fu [.agg (.ints .u64 a) 8,.agg (.ints .u8 b) 32]=(R0 [.agg (.ints .u8 b) 32]).bind λ t=>bif decide (aO t=0) then (R1 [.agg (.ints .u64 a) 8]).bind λ bY=>bif aM bY then some (AV.tup [.s (.pl (.agg (.ints .u8 [0,0,0,0,0,0,0,0,0,0,0,0,0,0,0,0,0,0,0,0,0,0,0,0,0,0,0,0,0,0,0,0]) 32)),.s (.pl (.int .i64 9))]) else bif !decide (aO t=0) then some (AV.tup [.s (.pl (.agg (.ints .u8 [0,0,0,0,0,0,0,0,0,0,0,0,0,0,0,0,0,0,0,0,0,0,0,0,0,0,0,0,0,0,0,0]) 32)),.s (.pl (.int .i64 (aO t)))]) else (R2 [.agg (.ints .u64 (aG t)) 20,.agg (.ints .u64 a) 8]).bind λ t=>(R3 [.agg (.ints .u64 (bE t)) 20]).bind λ t=>some (AV.tup [.s (.pl (.agg (.ints .u8 (bS t)) 32)),.s (.pl (.int .i64 0))]) else bif !decide (aO t=0) then some (AV.tup [.s (.pl (.agg (.ints .u8 [0,0,0,0,0,0,0,0,0,0,0,0,0,0,0,0,0,0,0,0,0,0,0,0,0,0,0,0,0,0,0,0]) 32)),.s (.pl (.int .i64 (aO t)))]) else (R2 [.agg (.ints .u64 (aG t)) 20,.agg (.ints .u64 a) 8]).bind λ t=>(R3 [.agg (.ints .u64 (bE t)) 20]).bind λ t=>some (AV.tup [.s (.pl (.agg (.ints .u8 (bS t)) 32)),.s (.pl (.int .i64 0))]):=by kernel_rfl
end
section
variable (T0:Type) (R0:FA T0) (aG:T0->List Int) (T1:Type) (R1:FA T1) (aM:T1->List UInt8) (T2:Type) (R2:FA T2) (bE:T2->List Int)
def aXd:Cg:=⟨⟨cV [(14,⟨R0,λ t=>AV.agg (.ints .u8 (aG t)) 32⟩),(152,⟨R1,λ t=>AV.str (aM t)⟩),(78,⟨R2,λ t=>AV.agg (.ints .u8 (bE t)) 64⟩)],[],cX⟩,[]⟩
theorem bCh (fu:Nat) (s:Str) (p:Pt):aS prog Tryz.f111 (aXd T0 R0 aG T1 R1 aM T2 R2 bE) fu [.str s,eP p]=(R0 [aU [(p.x.a:Int),(p.x.b:Int),(p.x.c:Int),(p.x.d:Int),(p.x.e:Int),(p.y.a:Int),(p.y.b:Int),(p.y.c:Int),(p.y.d:Int),(p.y.e:Int),(p.z.a:Int),(p.z.b:Int),(p.z.c:Int),(p.z.d:Int),(p.z.e:Int),(p.t.a:Int),(p.t.b:Int),(p.t.c:Int),(p.t.d:Int),(p.t.e:Int)] 20]).bind λ t=>(R1 [.s (.dat (.strs ([s]++[List.map b8 (List.take 32 (List.drop 0 (aG t)))])) 2 1)]).bind λ t=>(R2 [.s (.dat (.strs ([aM t]++[[(70:UInt8),105,110,97,108,105,122,101]])) 2 1)]).bind λ t=>some (AV.str (List.map b8 (List.take 64 (List.drop 0 (bE t))))):=by kernel_rfl
end
section
variable (T0:Type) (R0:FA T0) (aG:T0->Int) (T1:Type) (R1:FA T1) (aM:T1->List Int) (bK:T1->Int) (T2:Type) (R2:FA T2) (bE:T2->List Int) (T3:Type) (R3:FA T3) (bS:T3->List Int) (T4:Type) (R4:FA T4) (dG:T4->List UInt8)
def aXe:Cg:=⟨⟨cV [(110,⟨R0,λ t=>AV.int .i64 (aG t)⟩),(88,⟨R1,λ t=>AV.tup [.s (.pl (.agg (.ints .u64 (aM t)) 20)),.s (.pl (.int .i64 (bK t)))]⟩),(112,⟨R2,λ t=>AV.agg (.ints .u64 (bE t)) 8⟩),(90,⟨R3,λ t=>AV.agg (.ints .u64 (bS t)) 20⟩),(111,⟨R4,λ t=>AV.str (dG t)⟩)],[],cX⟩,[]⟩
theorem bCi (fu:Nat) (s:Str) (a b:List Int):aS prog Tryz.f66 (aXe T0 R0 aG T1 R1 aM bK T2 R2 bE T3 R3 bS T4 R4 dG) fu [.str s,.agg (.ints .u64 a) 8,.agg (.ints .u8 b) 32]=(R0 [.str s,.agg (.ints .u64 a) 8]).bind λ t=>bif !decide (aG t=0) then some (AV.tup [.s (.pl (.str [])),.s (.pl (.int .i64 (aG t)))]) else (R1 [.agg (.ints .u8 b) 32]).bind λ t=>bif !decide (bK t=0) then some (AV.tup [.s (.pl (.str [])),.s (.pl (.int .i64 (bK t)))]) else (R2 [.agg (.ints .u64 a) 8]).bind λ bY=>(R3 [.agg (.ints .u64 (aM t)) 20,.agg (.ints .u64 (bE bY)) 8]).bind λ t=>(R4 [.str s,.agg (.ints .u64 (bS t)) 20]).bind λ t=>some (AV.tup [.s (.pl (.str (dG t))),.s (.pl (.int .i64 0))]):=by kernel_rfl
end
section
variable (T0:Type) (R0:FA T0) (aG:T0->List Int) (aO:T0->Int) (T1:Type) (R1:FA T1) (aM:T1->List UInt8)
def aXf:Cg:=⟨⟨cV [(108,⟨R0,λ t=>AV.tup [.s (.pl (.agg (.ints .u64 (aG t)) 20)),.s (.pl (.int .i64 (aO t)))]⟩),(111,⟨R1,λ t=>AV.str (aM t)⟩)],[],cX⟩,[]⟩
theorem bCj (fu:Nat) (a:List Int) (s:Str):aS prog Tryz.f67 (aXf T0 R0 aG aO T1 R1 aM) fu [.agg (.ints .u64 a) 8,.str s]=(R0 [.str s,.agg (.ints .u64 a) 8]).bind λ t=>bif !decide (aO t=0) then some (AV.tup [.s (.pl (.str [])),.s (.pl (.int .i64 (aO t)))]) else (R1 [.str s,.agg (.ints .u64 (aG t)) 20]).bind λ t=>some (AV.tup [.s (.pl (.str (aM t))),.s (.pl (.int .i64 0))]):=by kernel_rfl
end
section
variable (T0:Type) (R0:FA T0) (aG:T0->List Int)
def UM:Cg:=⟨⟨cV [(16,⟨R0,λ t=>AV.tup [.s (.pl (.agg (.ints .u64 (aG t)) 8)),.s (.pl (.int .i64 (0)))]⟩)],[],cX⟩,[(4,[1,2,3,9,10],[2,3])]⟩
def QQ (n3:Nat) (v9 gR:Int) (aQ bC:List Int) (jV:Nat) (dE:List Int):St:={ tm:=[(1,.s (.ptr 0 0 32)),(2,.s (.ptr 1 0 8)),(3,.s (.own 2 n3 1)),(9,.int .i64 v9),(10,.int .i64 gR)],hp:=[(0,{ ty:=23,n:=32,row:=Row.t (.ints .u8 aQ) }),(1,{ ty:=29,n:=8,row:=Row.t (.ints .u64 bC) }),(2,{ ty:=5,n:=jV,row:=Row.t (.ints .u8 dE) })],nx:=3,sz:=27 }
def Xx:Code:=cN (bN [1,1,0,1,2] (bB Tryz.f5))
def aI8 (fu:Nat):=mD prog (UM T0 R0 aG) fu [1,1,0,1,2] (bB Tryz.f5) (gI prog Tryz.f5)
abbrev bCk (fu:Nat) (n3:Nat) (v9 gR:Int) (aQ bC:List Int) (jV:Nat) (dE:List Int):=eV prog (UM T0 R0 aG) fu Xx (aI8 T0 R0 aG fu ) fu (some (QQ n3 v9 gR aQ bC jV dE))
theorem bCl (fu:Nat) (a:List Int):aS prog Tryz.f5 (UM T0 R0 aG) fu [.agg (.ints .u8 a) 32]=bCk T0 R0 aG fu 32 32 0 a [0,0,0,0,0,0,0,0] 32 (List.replicate 32 0):=by kernel_rfl
def K4 (n3:Nat) (aQ:List Int) (eM:Nat) (bC:List Int):St:={ tm:=[(2,.s (.ptr 0 0 8)),(3,.s (.own 1 n3 1))],hp:=[(0,{ ty:=29,n:=8,row:=Row.t (.ints .u64 aQ) }),(1,{ ty:=5,n:=eM,row:=Row.t (.ints .u8 bC) })],nx:=2,sz:=27 }
theorem aI9 {β:Type} (fu:Nat) (G:FG β) (H:FH β) (n3:Nat) (v9 gR:Int) (aQ bC:List Int) (jV:Nat) (dE:List Int):fV prog (UM T0 R0 aG) fu Xx G H (QQ n3 v9 gR aQ bC jV dE)=bif decide (gR < v9) then bif decide (0 <= gR /\ gR < 32) then bif decide (0 <= gR /\ gR < (n3:Int)) then G (some (QQ n3 v9 (i64.wrap (gR+1)) aQ bC jV (dE.set gR.toNat (aQ.getD (0+gR.toNat) 0)))) else none else none else H (Ex.exit 0) (some (K4 n3 bC jV dE)):=by kernel_rfl
theorem aJa (fu:Nat) (n3:Nat) (aQ:List Int) (eM:Nat) (bC:List Int):aI8 T0 R0 aG fu  (Ex.exit 0) (K4 n3 aQ eM bC)=(R0 [.str (List.map b8 bC)]).bind λ t=>some (AV.agg (.ints .u64 (aG t)) 8):=by kernel_rfl
end
set_option maxRecDepth 4000
theorem UN {a:List Int} (h:Nat.blt (vB a) aK=false):oS a=(dM,8):=by
 unfold oS;rw [h]; rfl
theorem aA8 {a:List Int} (h:Nat.blt (vB a) aK=true):oS a=cond (!qS (fe (vB a)) && ((XU (fe (vB a))).2 && (!qS (XV (fe (vB a))) && !FK (JR (fe (vB a)))))) (ptP (fe (vB a)),0) (dM,8):=by
 unfold oS;rw [h,mO]; rfl
theorem aJb:CallOk prog 131 aI1:=by
 refine fO aRo Tryz.func131 ?_;intro args t ht;obtain ⟨a,rfl,ha,rfl⟩:=sX (F:=oS) ht;refine (bCS ..).trans ?_;show _=some (ePE (oS a));have r0:=YV ha;have ne:=tC;cases hb:Nat.blt (vB a) aK
 ·have e0:HH a=(f0,7):=by unfold HH; rw [hb]; rfl
  rw [e0] at r0;rw [UN hb];generalize dM=Np at *;refine aI r0 ?_;rw [aJ (by decide:¬ ((7:Int)=0)),jB,aB];refine aI ne ?_;rfl
 ·have e0:HH a=(fe (vB a),0):=by unfold HH; rw [hb]; rfl
  rw [e0] at r0;rw [aA8 hb];clear e0 hb;have hs:cS (fe (vB a)):=cA _;generalize fe (vB a)=s at *;have r1:=FP hs;have o1:cS (fe 1):=cA 1;have u1:=XW hs;have u2:=BT hs;have uu:=aL u2 u2;have vv:=XX hs;have kB:=aIa hs;have kI:=Tq hs;have kx:=Kl hs;have ky:=Km hs;have kt:=XY hs;have r5:xC [eF (fe 1),eF (aN s s)]=some (pU1 s):=iQ o1 (aL hs hs);have r6:vU [eF (fe 1),eF (aN s s)]=some (P6 s):=gF o1 (aL hs hs);have r7:=bHg (aL u1 u1);have r8:=pK (aL qY (aL u1 u1));have r9:xC [eF (cQ f0 (aN dF (aN (pU1 s) (pU1 s)))),eF (aN (P6 s) (P6 s))]=some (pVF s):=iQ (cR qW) uu;have r10:=bF vv uu;have r11:KZ [eF (fe 1),eF (aN (pVF s) (aN (P6 s) (P6 s)))]=some (XU s):=FY o1 kB;have r12:=bF kI u2;have r13:=bF kI (aL kI u2);have r14:=bF (aL kI (aL kI u2)) vv;have r15:=gF hs hs;have r16:=bF (cT hs hs) (aL kI u2);have r17:IK [eF (aN (gS s s) (aN (XU s).1 (P6 s)))]=some (pXF s):=BR (aL (cT hs hs) (aL kI u2));have r18:iA [eF (pU1 s),eF (aN (aN (XU s).1 (aN (XU s).1 (P6 s))) (pVF s))]=some (JR s):=bF u1 (aL (aL kI (aL kI u2)) vv);have r19:iA [eF (pXF s),eF (JR s)]=some (XV s):=bF kx ky;have r20:=FP kt;have r21:=aAp ky;have r22:=aCA kx ky o1 kt;have r23:=Cs (p:=⟨pXF s,JR s,fe 1,XV s⟩) ⟨kx,ky,o1,kt⟩;have ep:ptP s=⟨pXF s,JR s,fe 1,XV s⟩:=rfl;rw [ep];clear ep;have r4:=kW hs;have r4u:=kW u2;have r4w:=kW u1;generalize dM=Np at *;generalize hq1:qS (XV s)=q1 at *;generalize hq2:FK (JR s)=q2 at *;generalize hq3:qS s=q3 at *;clear hq1 hq2 hq3;generalize XV s=pt at *;generalize pXF s=px at *;generalize JR s=py at *;generalize XU s=I at *;generalize pVF s=v at *;generalize pU1 s=w1 at *;generalize P6 s=w2 at *;refine aI r0 ?_;rw [aD rfl,iD,aE];refine aI r1 ?_;cases q3
  ·rw [aE,jB,mO];refine aI (lV (n:=1) (by decide)) ?_;refine aI r4 ?_;refine aI r5 ?_;refine aI r6 ?_;refine aI r4u ?_;refine aI (show rCD []=some () from rfl) ?_;refine aI r4w ?_;refine aI r7 ?_;refine aI r8 ?_;refine aI r9 ?_;refine aI r10 ?_;refine aI r11 ?_;refine aI r12 ?_;refine aI r13 ?_;refine aI r14 ?_;refine aI r15 ?_;refine aI r16 ?_;refine aI r17 ?_;refine aI r18 ?_;refine aI r19 ?_;obtain ⟨I1,I2⟩:=I;cases I2
   ·refine nC rfl ?_;refine aI ne ?_;rfl
   ·rw [show (!(I1,true).2)=false from rfl,aE];refine aI r20 ?_;cases q1
    ·rw [aE];refine aI r21 ?_;cases q2
     ·rw [aE];refine aI r22 ?_;refine aI r23 ?_;rfl
     ·refine nC rfl ?_;refine aI ne ?_;rfl
    ·refine nC rfl ?_;refine aI ne ?_;rfl
  ·refine nC rfl ?_;refine aI ne ?_;rfl
theorem aEv {a:List Int} (h:dP a=true):aI2 [pG a]=some (oS a):=B2 oS h
theorem aA9 (a:List Int):nG (oS a).1:=by
 cases hb:Nat.blt (vB a) aK
 ·rw [UN hb]; exact sF
 ·rw [aA8 hb];have hs:cS (fe (vB a)):=cA _;generalize (!qS (fe (vB a)) && ((XU (fe (vB a))).2 && (!qS (XV (fe (vB a))) && !FK (JR (fe (vB a))))))=b;cases b
  ·exact sF
  ·exact ⟨Kl hs,Km hs,cA 1,XY hs⟩
theorem aEw (a:List Int):(kJ a).1=(oS a).1:=by
 unfold kJ;cases (decide ((oS a).2=0) && pL (oS a).1 dM) <;> rfl
theorem UO (a:List Int):nG (kJ a).1:=by rw [aEw]; exact aA9 a
abbrev bCm:Cg:=aW6 (Pt × Int) aI2 (λ t=>[↑t.fst.x.a,↑t.fst.x.b,↑t.fst.x.c,↑t.fst.x.d,↑t.fst.x.e,↑t.fst.y.a,↑t.fst.y.b,↑t.fst.y.c,↑t.fst.y.d,↑t.fst.y.e,↑t.fst.z.a,↑t.fst.z.b,↑t.fst.z.c,↑t.fst.z.d,↑t.fst.z.e,↑t.fst.t.a,↑t.fst.t.b,↑t.fst.t.c,↑t.fst.t.d,↑t.fst.t.e]) (λ t=>t.snd) (Bool) Py (λ t=>t)
theorem aQW:CfOk prog bCm.c:=gk <| aA aJb <| aA Kg <| aH
theorem UP:CallOk prog 88 aI3:=by
 refine fO aQW Tryz.func88 ?_;intro args t ht;obtain ⟨a,rfl,ha,rfl⟩:=sX (F:=kJ) ht;refine (bCa ..).trans ?_;show _=some (ePE (kJ a));have r0:=aEv ha;have r1:=HR (aA9 a);have e:kJ a=cond (decide ((oS a).2=0) && pL (oS a).1 dM) ((oS a).1,9) (oS a):=rfl;rw [e];clear e;refine aI r0 ?_;generalize pL (oS a).1 dM=b at *;generalize oS a=r at *;obtain ⟨p,e⟩:=r;dsimp only at *;cases hd:decide (e=0)
 ·rfl
 ·rw [aB];refine aI r1 ?_;cases b
  ·rfl
  ·rfl
theorem OH {a:List Int} (h:dP a=true):Xv [pG a]=some (kJ a):=B2 kJ h
theorem QR {g h:CP.G} (s:Ds g h) (n:Nat):Ds (CP.nsm n g) (CP.nsm n h):=by
 induction n with
 | zero=>exact To _
 | succ n ih=>
  rw [CP.nsm_add,CP.nsm_one,CP.nsm_add,CP.nsm_one];exact aP8 ih s
theorem bCn {g h:CP.G} (hg:Ev g) (s:Ds g h):Ev h:=by
 obtain ⟨t,k4,rfl⟩:=pM s;exact yJ hg (Kk k4)
theorem aJc {g h:CP.G} (s:Ds g h):e4 g ↔ e4 h:=by
 rw [<-LI,<-LI];exact ⟨λ k=>rE (BS s) k,λ k=>rE s k⟩
def Xy (p:Pt):List Int:=lo 32 (fv (cW p)%aK)
theorem aJd (p:Pt):dP (Xy p)=true:=Gt _
theorem aEx {p:Pt} {g:CP.G} (hp:PT p g) (hg:Ev g):∃ q h,oS (Xy p)=(q,0) /\ PT q h /\ Ds g h /\ Ev h:=by
 obtain ⟨a,h,ea,ha,hb,hgd,s,E,P⟩:=aId hp hg;refine ⟨_,h,?_,P,s,E⟩;have e:Xy p=a:=ea.symm;rw [e];unfold oS;rw [hb,hgd]; rfl
theorem Hc {p:Pt} {g:CP.G} (hp:PT p g) (hg:Ev g) (h4:¬ e4 g):∃ q h,oS (Xy p)=(q,0) /\ kJ (Xy p)=(q,0) /\ PT q h /\ Ds g h /\ Ev h:=by
 obtain ⟨q,h,e,Q,s,E⟩:=aEx hp hg;refine ⟨q,h,e,?_,Q,s,E⟩;have n:pL q dM=false:=by
  rw [M6];intro k;exact h4 ((aJc s).2 ((Ff Q).1 k))
 unfold kJ;rw [e];show cond (decide ((0:Int)=0) && pL q dM) _ _=_;rw [n,S6]; rfl
theorem Xz {p:Pt} {g:CP.G} (hp:PT p g) {k:Nat} (hk:k < LN):PT (eY p (cU k 253)) (CP.nsm k g):=by
 have:=Ma hp k;rwa [aX0 hk] at this
theorem aEy {p:Pt} {g:CP.G} (hp:PT p g) (hg:Ev g) (h4:¬ e4 g) {k:Nat} (h0:0 < k) (hk:k < LN):∃ r h,gO k (Xy p)=(Xy r,0) /\ PT r h /\ Ds (CP.nsm k g) h /\ Ev h /\ ¬ e4 h:=by
 obtain ⟨q,h,_,e,Q,s,E⟩:=Hc hp hg h4;have R:=Xz Q hk;refine ⟨_,_,?_,R,QR s k,P5 E k,λ z=>h4 ((aJc s).2 (aAD E h0 hk z))⟩;have b:Nat.beq k 0=false:=by
  cases hb:Nat.beq k 0
  ·rfl
  ·exact absurd (aT hb) (by omega)
 unfold gO;rw [e,b];show cond (decide ((0:Int)=0)) _ _=_;rw [aD rfl]; rfl
theorem bCo {p q:Pt} {g h:CP.G} (hp:PT p g) (hq:PT q h) (hg:Ev g) (s:Ds g h):Xy p=Xy q:=(bGI hp hq hg (bCn hg s)).2 s
set_option maxRecDepth 4000
theorem lR {a b:Nat} (h:a <= b):Nat.ble a b=true:=by rw [dJ]; exact h
theorem aQX {a b:Nat} (h:¬ a <= b):Nat.ble a b=false:=by
 cases hb:Nat.ble a b
 ·rfl
 ·rw [dJ] at hb; exact absurd hb h
theorem K5 {T:Type} {F:Str->Nat->T} {args:List AV} {t:T} (h:UL F args=some t):∃ s a,args=[.str s,W8 a] /\ gK a=true /\ s.length <= 1099511620000 /\ t=F s (val a):=by
 unfold UL at h;split at h
 ·obtain ⟨h1,h2⟩:=bO h;rw [aW,dJ] at h1;exact ⟨_,_,rfl,h1.1,h1.2,h2.symm⟩
 ·cases h
theorem aJe {T:Type} (F:Str->Nat->T) {s:Str} {a:List Int} (h:gK a=true) (hs:s.length <= 1099511620000):UL F [.str s,W8 a]=some (F s (val a)):=by
 show cond (gK a && Nat.ble s.length 1099511620000) (some (F s (val a))) none=_;rw [h,lR hs]; rfl
abbrev bCp:Cg:=aW7 
theorem aQY:CfOk prog bCp.c:=gk <| aH
theorem aQZ:CallOk prog 182 aI4:=by
 refine fO aQY Tryz.func182 ?_;intro args t ht;unfold aI4 at ht;simp only at ht;split at ht
 ·exact bCb ..
 ·cases ht
theorem bHe {x:Str} (h:x.length=64):FT x=((FT x).1,0):=by
 unfold FT;rw [h]; rfl
theorem aJf {x:Str} (h:x.length=64):nG (FT x).1:=by
 unfold FT;rw [h];exact Gr (Gp _) (Gp _) Ix
theorem X0 (s:Str):nG (wY s):=aJf (Mp _ _ _)
abbrev bCq:Cg:=aW8 (PUnit) aW5 (Str × Int) aUt (λ t=>t.fst) (λ t=>t.snd) (Pt) Bg (λ t=>[↑t.x.a,↑t.x.b,↑t.x.c,↑t.x.d,↑t.x.e,↑t.y.a,↑t.y.b,↑t.y.c,↑t.y.d,↑t.y.e,↑t.z.a,↑t.z.b,↑t.z.c,↑t.z.d,↑t.z.e,↑t.t.a,↑t.t.b,↑t.t.c,↑t.t.d,↑t.t.e]) (Pt × Int) bGD (λ t=>[↑t.fst.x.a,↑t.fst.x.b,↑t.fst.x.c,↑t.fst.x.d,↑t.fst.x.e,↑t.fst.y.a,↑t.fst.y.b,↑t.fst.y.c,↑t.fst.y.d,↑t.fst.y.e,↑t.fst.z.a,↑t.fst.z.b,↑t.fst.z.c,↑t.fst.z.d,↑t.fst.z.e,↑t.fst.t.a,↑t.fst.t.b,↑t.fst.t.c,↑t.fst.t.d,↑t.fst.t.e]) (λ t=>t.snd)
theorem aQ0:CfOk prog bCq.c:=gk <| aA aQZ <| aA aM9 <| aA HP <| aA bE7 <| aH
theorem bCr:CallOk prog 151 bB4:=by
 refine fO aQ0 Tryz.func151 ?_;intro args t ht;unfold bB4 at ht;simp only at ht;split at ht
 ·rename_i s;obtain ⟨h1,h2⟩:=bO ht;subst h2;rw [dJ] at h1;have o:aW5 []=some ():=rfl;have hj:VF [s] 1=true:=by
   show (Nat.beq 1 1 && Nat.ble 1 1048000 && Nat.ble (Lib.join [s] []).length 1099511620000)=true;rw [Lib.join_one,lR (show s.length <= 1099511620000 by omega)]; rfl
  have x:=aDb (d:=NV++Ha) (k:=64) (by decide) hj;have e:ZS (NV++Ha) 64 (Lib.join [s] [])=(BC (NV++Ha) 64 s,0):=by
   rw [Lib.join_one,ZS,aV (by omega),aV (by decide)]; rfl
  rw [e] at x;have m:=aTZ (BC (NV++Ha) 64 s);rw [bHe (Mp _ _ _)] at m;have eh:wY s=(FT (BC (NV++Ha) 64 s)).1:=rfl;refine (bCc ..).trans ?_;show _=some (ePE (wY s,0));rw [eh];generalize BC (NV++Ha) 64 s=X at *;generalize (FT X).1=M at *;refine aI o ?_;refine aI x ?_;rw [aD rfl,iD,aE];refine aI m ?_;rfl
 ·cases ht
theorem aQ1 {s:Str} (h:s.length <= 65535):bHa [.str s]=some (wY s,0):=by
 show cond (Nat.ble s.length 65535) (some (wY s,0)) none=_;rw [lR h]; rfl
abbrev bCs:Cg:=aW9 (Bool) AJ (λ t=>t)
theorem aQ2:CfOk prog bCs.c:=gk <| aA Hd <| aH
theorem aJg:CallOk prog 110 bHb:=by
 refine fO aQ2 Tryz.func110 ?_;intro args t ht;obtain ⟨s,a,rfl,ha,hs,rfl⟩:=K5 (F:=uM) ht;refine (bCd ..).trans ?_;show _=some (AV.int .i64 (uM s (val a)));have z:AJ [W8 a]=some (Nat.beq (val a) 0):=lN (λ a=>Nat.beq (val a) 0) ha;unfold uM;by_cases h:s.length <= 65535
 ·rw [lR h,aB,aJ (by omega),aE];refine aI z ?_;cases Nat.beq (val a) 0 <;> rfl
 ·rw [aQX h,aE,aD (by omega),aB]
theorem aBa {s:Str} {a:List Int} (h:gK a=true) (hs:s.length <= 1099511620000):bB5 [.str s,W8 a]=some (uM s (val a)):=aJe uM h hs
theorem aJh {s:Str} {k:Nat} (h:uM s k=0):s.length <= 65535 /\ Nat.beq k 0=false:=by
 unfold uM at h;cases h1:Nat.ble s.length 65535
 ·rw [h1] at h; cases h
 ·rw [dJ] at h1;refine ⟨h1,?_⟩;cases h2:Nat.beq k 0
  ·rfl
  ·rw [lR h1,h2] at h; cases h
theorem UQ {s:Str} {k:Nat} (h:uM s k=0):wA s k=cond (pL (eY (wY s) (cU k 253)) dM) (dM,9) (eY (wY s) (cU k 253),0):=by
 unfold wA;rw [aD h]; rfl
theorem aBb {s:Str} {k:Nat} (h:¬ uM s k=0):wA s k=(dM,uM s k):=by
 unfold wA;rw [aJ h]; rfl
abbrev bCt:Cg:=aXa (Int) bB5 (λ t=>t) (Pt) Bg (λ t=>[↑t.x.a,↑t.x.b,↑t.x.c,↑t.x.d,↑t.x.e,↑t.y.a,↑t.y.b,↑t.y.c,↑t.y.d,↑t.y.e,↑t.z.a,↑t.z.b,↑t.z.c,↑t.z.d,↑t.z.e,↑t.t.a,↑t.t.b,↑t.t.c,↑t.t.d,↑t.t.e]) (Pt × Int) bHa (λ t=>[↑t.fst.x.a,↑t.fst.x.b,↑t.fst.x.c,↑t.fst.x.d,↑t.fst.x.e,↑t.fst.y.a,↑t.fst.y.b,↑t.fst.y.c,↑t.fst.y.d,↑t.fst.y.e,↑t.fst.z.a,↑t.fst.z.b,↑t.fst.z.c,↑t.fst.z.d,↑t.fst.z.e,↑t.fst.t.a,↑t.fst.t.b,↑t.fst.t.c,↑t.fst.t.d,↑t.fst.t.e]) (λ t=>t.snd) (Pt) EX (λ t=>[↑t.x.a,↑t.x.b,↑t.x.c,↑t.x.d,↑t.x.e,↑t.y.a,↑t.y.b,↑t.y.c,↑t.y.d,↑t.y.e,↑t.z.a,↑t.z.b,↑t.z.c,↑t.z.d,↑t.z.e,↑t.t.a,↑t.t.b,↑t.t.c,↑t.t.d,↑t.t.e]) (Bool) Py (λ t=>t)
theorem aQ3:CfOk prog bCt.c:=gk <| aA aJg <| aA HP <| aA bCr <| aA HQ <| aA Kg <| aH
theorem aBc:CallOk prog 108 aI5:=by
 refine fO aQ3 Tryz.func108 ?_;intro args t ht;obtain ⟨s,a,rfl,ha,hs,rfl⟩:=K5 (F:=wA) ht;refine (bCe ..).trans ?_;show _=some (ePE (wA s (val a)));have y:=aBa ha hs;have ne:=tC;refine aI y ?_;by_cases h:uM s (val a)=0
 ·obtain ⟨hl,hk⟩:=aJh h;have g:=aQ1 hl;have t:=C4 (X0 s) ha;have n:=HR (vL (X0 s) (cU (val a) 253));rw [UQ h,h];generalize pL (eY (wY s) (cU (val a) 253)) dM=b at *;generalize eY (wY s) (cU (val a) 253)=T at *;generalize wY s=H at *;generalize dM=Np at *;rw [aD rfl,iD,aE];refine aI g ?_;rw [aD rfl,iD,aE];refine aI t ?_;refine aI n ?_;cases b
  ·rfl
  ·refine nC rfl ?_;refine aI ne ?_;rfl
 ·rw [aBb h];generalize uM s (val a)=e at *;generalize dM=Np at *;rw [aJ h,jB,aB];refine aI ne ?_;rfl
theorem Fc {s:Str} {a:List Int} (h:gK a=true) (hs:s.length <= 1099511620000):aA5 [.str s,W8 a]=some (wA s (val a)):=aJe wA h hs
abbrev bCu:Cg:=aXb (Pt × Int) aA5 (λ t=>[↑t.fst.x.a,↑t.fst.x.b,↑t.fst.x.c,↑t.fst.x.d,↑t.fst.x.e,↑t.fst.y.a,↑t.fst.y.b,↑t.fst.y.c,↑t.fst.y.d,↑t.fst.y.e,↑t.fst.z.a,↑t.fst.z.b,↑t.fst.z.c,↑t.fst.z.d,↑t.fst.z.e,↑t.fst.t.a,↑t.fst.t.b,↑t.fst.t.c,↑t.fst.t.d,↑t.fst.t.e]) (λ t=>t.snd)
theorem aQ4:CfOk prog bCu.c:=gk <| aA aBc <| aH
theorem aJi:CallOk prog 64 aI5:=by
 refine fO aQ4 Tryz.func64 ?_;intro args t ht;obtain ⟨s,a,rfl,ha,hs,rfl⟩:=K5 (F:=wA) ht;refine (bCf ..).trans ?_;refine aI (Fc ha hs) ?_;rfl
theorem K6 (k:Nat) (b:List Int):gO k b=cond (decide ((kJ b).2=0)) (cond (Nat.beq k 0) (nE,9) (lo 32 (fv (cW (eY (kJ b).1 (cU k 253)))%aK),0)) (nE,(kJ b).2):=rfl
abbrev bCv:Cg:=aXc (Pt × Int) Xv (λ t=>[↑t.fst.x.a,↑t.fst.x.b,↑t.fst.x.c,↑t.fst.x.d,↑t.fst.x.e,↑t.fst.y.a,↑t.fst.y.b,↑t.fst.y.c,↑t.fst.y.d,↑t.fst.y.e,↑t.fst.z.a,↑t.fst.z.b,↑t.fst.z.c,↑t.fst.z.d,↑t.fst.z.e,↑t.fst.t.a,↑t.fst.t.b,↑t.fst.t.c,↑t.fst.t.d,↑t.fst.t.e]) (λ t=>t.snd) (Bool) AJ (λ t=>t) (Pt) EX (λ t=>[↑t.x.a,↑t.x.b,↑t.x.c,↑t.x.d,↑t.x.e,↑t.y.a,↑t.y.b,↑t.y.c,↑t.y.d,↑t.y.e,↑t.z.a,↑t.z.b,↑t.z.c,↑t.z.d,↑t.z.e,↑t.t.a,↑t.t.b,↑t.t.c,↑t.t.d,↑t.t.e]) (List Int) xF (λ t=>t)
theorem aQ5:CfOk prog bCv.c:=gk <| aA UP <| aA Hd <| aA HQ <| aA y6 <| aH
theorem aBd:CallOk prog 53 aI6:=by
 refine fO aQ5 Tryz.func53 ?_;intro args t ht;unfold aI6 at ht;simp only at ht;split at ht
 ·rename_i a b;obtain ⟨h1,h2⟩:=bO ht;subst h2;rw [aW] at h1;obtain ⟨ha,hb⟩:=h1;refine (bCg ..).trans ?_;show _=some (AV.tup [.s (.pl (.agg (.ints .u8 (gO (val a) b).1) 32)),.s (.pl (.int .i64 (gO (val a) b).2))]);have r:=OH hb;have hr:=UO b;have z:AJ [W8 a]=some (Nat.beq (val a) 0):=lN (λ a=>Nat.beq (val a) 0) ha;rw [K6];generalize kJ b=R at *;obtain ⟨p,e⟩:=R;dsimp only at *;have t:=C4 hr ha;have y:=rD (vL hr (cU (val a) 253));generalize eY p (cU (val a) 253)=T at *;generalize lo 32 (fv (cW T)%aK)=L at *;refine aI r ?_;by_cases h:e=0
  ·subst h;rw [aD rfl,aB,aB];refine aI z ?_;cases Nat.beq (val a) 0
   ·rw [aE,aE,iD,aE];refine aI t ?_;refine aI y ?_;rfl
   ·rfl
  ·rw [aJ h,aE,aE,jB,aB]; rfl
 ·cases ht
theorem UR {a b:List Int} (ha:gK a=true) (hb:dP b=true):aI7 [W8 a,pG b]=some (gO (val a) b):=by
 show cond (gK a && dP b) (some (gO (val a) b)) none=_;rw [ha,hb]; rfl
theorem aBe (x:Str):List.map b8 (List.take 64 (List.drop 0 (up (Gh x))))=hS x:=by
 rw [gL,d9 (by rw [Ad,wK]; omega)]; rfl
abbrev bCw:Cg:=aXd (List Int) xF (λ t=>t) (List UInt8) VR (λ t=>t) (List Nat) SI (λ t=>up t)
theorem aQ6:CfOk prog bCw.c:=gk <| aA y6 <| aA Yq <| aA EZ <| aH
theorem aJj:CallOk prog 111 bB6:=by
 refine fO aQ6 Tryz.func111 ?_;intro args t ht;unfold bB6 at ht;simp only at ht;split at ht
 ·rename_i s l;split at ht
  ·rename_i p hp;obtain ⟨h1,h2⟩:=bO ht;subst h2;rw [dJ] at h1;obtain ⟨rfl,ok⟩:=aYV hp;refine (bCh ..).trans ?_;show _=some (AV.str (EN s p));have y:=rD ok;have eL:(lo 32 (fv (cW p)%aK)).length=32:=fS _ _;have es:EN s p=hS (qT [s,(lo 32 (fv (cW p)%aK)).map b8]++Xw):=rfl;rw [es];generalize lo 32 (fv (cW p)%aK)=L at *;have tk:List.map b8 (List.take 32 (List.drop 0 L))=L.map b8:=by rw [gL,d9 (by omega)]
   have cl:(qT [s,L.map b8]).length=s.length+36:=by
    show ((CA s.length++s)++((CA (L.map b8).length++L.map b8)++[])).length=_;rw [cD,cD,jC,cD,eZ,eL];show 2+s.length+(2+32)=_;omega
   have c:=VT (ss:=[s,L.map b8]) (n:=2) rfl (by show 2 <= 1048576; omega) (by rw [cl]; omega);have j:Lib.join [qT [s,L.map b8],Xw] []=qT [s,L.map b8]++Xw:=rfl;have hs:nZ [qT [s,L.map b8],Xw] 2=true:=by
    show (Nat.beq 2 2 && Nat.ble 2 1048576 && Nat.ble (Lib.join [qT [s,L.map b8],Xw] []).length 1099511627776)=true;rw [j,cD,cl,lR (show s.length+36+Xw.length <= 1099511627776 by show s.length+36+8 <= _; omega)]; rfl
   have u:=xP hs;rw [j] at u;refine aI y ?_;rw [tk];refine aI c ?_;refine aI u ?_;rw [aBe]
  ·cases ht
 ·cases ht
theorem aBf {s:Str} {p:Pt} (h:s.length <= 65535) (hp:nG p):bB7 [.str s,eP p]=some (EN s p):=by
 show (match ptL (nX p) with
  | some p=>cond (Nat.ble s.length 65535) (some (EN s p)) none
  | none=>none)=_
 rw [aOL hp];show cond (Nat.ble s.length 65535) _ _=_;rw [lR h]; rfl
end
end Go.Eng
