import Derived.Test.YteipjabipehbpaaGreatZT7
import Derived.Test.YteipjabipehbpaaGreatZX1
namespace Go.Eng
open Go.IntKind (u64 i64 u8)
noncomputable section
open Go Go.Proofs
set_option linter.all false
def parA (a:List Int):Pt × Int:=cond (Nat.blt (vB a) P25 && goodP (fe (vB a))) (ptP (fe (vB a)),0) (neutP,8)
def sEParA:Summ:={ T:=Pt × Int,run:=runB1 parA,enc:=ePE }
def rEParA:List AV->Option (Pt × Int):=sEParA.run
def readA (a:List Int):Pt × Int:=cond (decide ((parA a).2=0) && samE (parA a).1 neutP) ((parA a).1,9) (parA a)
def sERead:Summ:={ T:=Pt × Int,run:=runB1 readA,enc:=ePE }
def rERead:List AV->Option (Pt × Int):=sERead.run
abbrev oCtx:Str:=[79,80,82,70,86,49,45,0,45,114,105,115,116,114,101,116,116,111,50,53,53,45,83,72,65,53,49,50]
abbrev oH2g:Str:=[72,97,115,104,84,111,71,114,111,117,112,45]
abbrev oFin:Str:=[70,105,110,97,108,105,122,101]
def sOCtx:Summ where
 T:=Unit
 run:=fun
  | []=>some ()
  | _=>none
 enc:=fun _=>.str oCtx
def rOCtx:List AV->Option Unit:=sOCtx.run
def htgP (s:Str):Pt:=(mapF (xmdS (oH2g++oCtx) 64 s)).1
def sHtg:Summ where
 T:=Pt × Int
 run:=fun
  | [.c (.s (.pl (.str s)))]=>cond (Nat.ble s.length 65535) (some (htgP s,0)) none
  | _=>none
 enc:=ePE
def rHtg:List AV->Option (Pt × Int):=sHtg.run
def mayE (s:Str) (k:Nat):Int:=cond (Nat.ble s.length 65535) (cond (Nat.beq k 0) 9 0) 5
def runSK {T:Type} (F:Str->Nat->T):List AV->Option T
 | [.c (.s (.pl (.str s))),.c (.s (.pl (.agg (.ints .u64 a) 8)))]=>cond (ok8 a && Nat.ble s.length 1099511620000) (some (F s (val a))) none
 | _=>none
def sMay:Summ:={ T:=Int,run:=runSK mayE,enc:=fun t=>.int .i64 t }
def rMay:List AV->Option Int:=sMay.run
def timK (s:Str) (k:Nat):Pt × Int :=
 cond (decide (mayE s k=0)) (cond (samE (timesP (htgP s) (bitsDn k 253)) neutP) (neutP,9) (timesP (htgP s) (bitsDn k 253),0)) (neutP,mayE s k)
def sTimK:Summ:={ T:=Pt × Int,run:=runSK timK,enc:=ePE }
def rTimK:List AV->Option (Pt × Int):=sTimK.run
def endS (s:Str) (p:Pt):Str:=hS (cntL [s,(lo 32 (fv (bytesF p)%P25)).map b8]++oFin)
def sEnd:Summ where
 T:=Str
 run:=fun
  | [.c (.s (.pl (.str s))),.c (.s (.pl (.agg (.ints .u64 l) 20)))]=>match ptL l with
   | some p=>cond (Nat.ble s.length 65535) (some (endS s p)) none
   | none=>none
  | _=>none
 enc:=fun t=>.str t
def rEnd:List AV->Option Str:=sEnd.run
abbrev zer32:List Int:=List.replicate 32 0
def evalA (k:Nat) (b:List Int):List Int × Int :=
 cond (decide ((readA b).2=0)) (cond (Nat.beq k 0) (zer32,9) (lo 32 (fv (bytesF (timesP (readA b).1 (bitsDn k 253)))%P25),0)) (zer32,(readA b).2)
def sEval:Summ where
 T:=List Int × Int
 run:=fun
  | [.c (.s (.pl (.agg (.ints .u64 a) 8))),.c (.s (.pl (.agg (.ints .u8 b) 32)))]=>cond (ok8 a && ok32 b) (some (evalA (val a) b)) none
  | _=>none
 enc:=fun t=>.tup [.s (.pl (.agg (.ints .u8 t.1) 32)),.s (.pl (.int .i64 t.2))]
def rEval:List AV->Option (List Int × Int):=sEval.run
def finA (s:Str) (k:Nat) (b:List Int):Str × Int :=
 cond (decide (mayE s k=0)) (cond (decide ((readA b).2=0)) (endS s (timesP (readA b).1 (bitsDn (val (lim 8 (invL k 253 1))) 253)),0) ([],(readA b).2)) ([],mayE s k)
def eSE (t:Str × Int):AV:=.tup [.s (.pl (.str t.1)),.s (.pl (.int .i64 t.2))]
def sFin:Summ where
 T:=Str × Int
 run:=fun
  | [.c (.s (.pl (.str s))),.c (.s (.pl (.agg (.ints .u64 a) 8))),.c (.s (.pl (.agg (.ints .u8 b) 32)))]=>cond (ok8 a && (Nat.blt (val a) LN && ok32 b) && Nat.ble s.length 1099511620000) (some (finA s (val a) b)) none
  | _=>none
 enc:=eSE
def rFin:List AV->Option (Str × Int):=sFin.run
def wholeA (k:Nat) (s:Str):Str × Int:=cond (decide ((timK s k).2=0)) (endS s (timK s k).1,0) ([],(timK s k).2)
def sWhK:Summ where
 T:=Str × Int
 run:=fun
  | [.c (.s (.pl (.agg (.ints .u64 a) 8))),.c (.s (.pl (.str s)))]=>cond (ok8 a && Nat.ble s.length 1099511620000) (some (wholeA (val a) s)) none
  | _=>none
 enc:=eSE
def rWhK:List AV->Option (Str × Int):=sWhK.run
def sSome10:Summ:={ T:=Nat,run:=runB1 fun a=>vB a%LN,enc:=eW }
def rSome10:List AV->Option Nat:=sSome10.run
section
variable (T0:Type) (R0:List AV->Option T0) (f0a:T0->List Int) (f0b:T0->Int) (T1:Type) (R1:List AV->Option T1) (f1a:T1->Bool)
def g_ORd:Cg:=⟨⟨gam [(nF15,⟨R0,fun t=>AV.tup [.s (.pl (.agg (.ints .u64 (f0a t)) 20)),.s (.pl (.int .i64 (f0b t)))]⟩),(nF11,⟨R1,fun t=>AV.bool (f1a t)⟩)],[],noE⟩,[]⟩
theorem ORd_ev (fu:Nat) (a:List Int):afunc prog fF53 (g_ORd T0 R0 f0a f0b T1 R1 f1a) fu [.agg (.ints .u8 a) 32]=(R0 [.agg (.ints .u8 a) 32]).bind fun t=>bif decide (f0b t=(0:Int)) then (R1 [.agg (.ints .u64 (f0a t)) 20]).bind fun t_1=>bif f1a t_1 then some (AV.tup [.s (.pl (.agg (.ints .u64 (f0a t)) 20)),.s (.pl (.int .i64 (9:Int)))]) else some (AV.tup [.s (.pl (.agg (.ints .u64 (f0a t)) 20)),.s (.pl (.int .i64 (f0b t)))]) else some (AV.tup [.s (.pl (.agg (.ints .u64 (f0a t)) 20)),.s (.pl (.int .i64 (f0b t)))]):=by kernel_rfl
end
def g_OCx:Cg:=⟨⟨gam [],[],noE⟩,[]⟩
theorem OCx_ev (fu:Nat):afunc prog fF150 g_OCx fu []=some (AV.str [(79:UInt8),80,82,70,86,49,45,0,45,114,105,115,116,114,101,116,116,111,50,53,53,45,83,72,65,53,49,50]):=by kernel_rfl
section
variable (T0:Type) (R0:List AV->Option T0) (T1:Type) (R1:List AV->Option T1) (f1a:T1->Str) (f1b:T1->Int) (T2:Type) (R2:List AV->Option T2) (f2a:T2->List Int) (T3:Type) (R3:List AV->Option T3) (f3a:T3->List Int) (f3b:T3->Int)
def g_OHg:Cg:=⟨⟨gam [(nF150,⟨R0,fun t=>AV.str (oCtx)⟩),(nF115,⟨R1,fun t=>AV.tup [.s (.pl (.str (f1a t))),.s (.pl (.int .i64 (f1b t)))]⟩),(nF52,⟨R2,fun t=>AV.agg (.ints .u64 (f2a t)) 20⟩),(nF151,⟨R3,fun t=>AV.tup [.s (.pl (.agg (.ints .u64 (f3a t)) 20)),.s (.pl (.int .i64 (f3b t)))]⟩)],[],noE⟩,[]⟩
theorem OHg_ev (fu:Nat) (s:Str):afunc prog fF121 (g_OHg T0 R0 T1 R1 f1a f1b T2 R2 f2a T3 R3 f3a f3b) fu [.str s]=(R0 []).bind fun t=>(R1 [.str ([(72:UInt8),97,115,104,84,111,71,114,111,117,112,45]++oCtx),.int .i64 (64:Int),.s (.dat (.strs [s]) 1 1)]).bind fun t=>bif !decide (f1b t=(0:Int)) then (R2 []).bind fun t_1=>some (AV.tup [.s (.pl (.agg (.ints .u64 (f2a t_1)) 20)),.s (.pl (.int .i64 (f1b t)))]) else (R3 [.str (f1a t)]).bind fun t=>some (AV.tup [.s (.pl (.agg (.ints .u64 (f3a t)) 20)),.s (.pl (.int .i64 (f3b t)))]):=by kernel_rfl
end
section
variable (T0:Type) (R0:List AV->Option T0) (f0a:T0->Bool)
def g_OMy:Cg:=⟨⟨gam [(nF9,⟨R0,fun t=>AV.bool (f0a t)⟩)],[],noE⟩,[]⟩
theorem OMy_ev (fu:Nat) (s:Str) (a:List Int):afunc prog fF80 (g_OMy T0 R0 f0a) fu [.str s,.agg (.ints .u64 a) 8]=bif decide ((65535:Int) < (↑(List.length s):Int)) then some (AV.int .i64 (5:Int)) else (R0 [.agg (.ints .u64 a) 8]).bind fun t=>bif f0a t then some (AV.int .i64 (9:Int)) else some (AV.int .i64 (0:Int)):=by kernel_rfl
end
section
variable (T0:Type) (R0:List AV->Option T0) (f0a:T0->Int) (T1:Type) (R1:List AV->Option T1) (f1a:T1->List Int) (T2:Type) (R2:List AV->Option T2) (f2a:T2->List Int) (f2b:T2->Int) (T3:Type) (R3:List AV->Option T3) (f3a:T3->List Int) (T4:Type) (R4:List AV->Option T4) (f4a:T4->Bool)
def g_OTi:Cg:=⟨⟨gam [(nF80,⟨R0,fun t=>AV.int .i64 (f0a t)⟩),(nF52,⟨R1,fun t=>AV.agg (.ints .u64 (f1a t)) 20⟩),(nF121,⟨R2,fun t=>AV.tup [.s (.pl (.agg (.ints .u64 (f2a t)) 20)),.s (.pl (.int .i64 (f2b t)))]⟩),(nF23,⟨R3,fun t=>AV.agg (.ints .u64 (f3a t)) 20⟩),(nF11,⟨R4,fun t=>AV.bool (f4a t)⟩)],[],noE⟩,[]⟩
theorem OTi_ev (fu:Nat) (s:Str) (a:List Int):afunc prog fF78 (g_OTi T0 R0 f0a T1 R1 f1a T2 R2 f2a f2b T3 R3 f3a T4 R4 f4a) fu [.str s,.agg (.ints .u64 a) 8]=(R0 [.str s,.agg (.ints .u64 a) 8]).bind fun t=>bif !decide (f0a t=(0:Int)) then (R1 []).bind fun t_1=>some (AV.tup [.s (.pl (.agg (.ints .u64 (f1a t_1)) 20)),.s (.pl (.int .i64 (f0a t)))]) else (R2 [.str s]).bind fun t=>bif !decide (f2b t=(0:Int)) then (R1 []).bind fun t_1=>some (AV.tup [.s (.pl (.agg (.ints .u64 (f1a t_1)) 20)),.s (.pl (.int .i64 (f2b t)))]) else (R3 [.agg (.ints .u64 (f2a t)) 20,.agg (.ints .u64 a) 8]).bind fun t=>(R4 [.agg (.ints .u64 (f3a t)) 20]).bind fun t_1=>bif f4a t_1 then (R1 []).bind fun t=>some (AV.tup [.s (.pl (.agg (.ints .u64 (f1a t)) 20)),.s (.pl (.int .i64 (9:Int)))]) else some (AV.tup [.s (.pl (.agg (.ints .u64 (f3a t)) 20)),.s (.pl (.int .i64 (0:Int)))]):=by kernel_rfl
end
section
variable (T0:Type) (R0:List AV->Option T0) (f0a:T0->List Int) (f0b:T0->Int)
def g_OBl:Cg:=⟨⟨gam [(nF78,⟨R0,fun t=>AV.tup [.s (.pl (.agg (.ints .u64 (f0a t)) 20)),.s (.pl (.int .i64 (f0b t)))]⟩)],[],noE⟩,[]⟩
theorem OBl_ev (fu:Nat) (s:Str) (a:List Int):afunc prog fF30 (g_OBl T0 R0 f0a f0b) fu [.str s,.agg (.ints .u64 a) 8]=(R0 [.str s,.agg (.ints .u64 a) 8]).bind fun t=>some (AV.tup [.s (.pl (.agg (.ints .u64 (f0a t)) 20)),.s (.pl (.int .i64 (f0b t)))]):=by kernel_rfl
end
section
variable (T0:Type) (R0:List AV->Option T0) (f0a:T0->List Int) (f0b:T0->Int) (T1:Type) (R1:List AV->Option T1) (f1a:T1->Bool) (T2:Type) (R2:List AV->Option T2) (f2a:T2->List Int) (T3:Type) (R3:List AV->Option T3) (f3a:T3->List Int)
def g_OEv:Cg:=⟨⟨gam [(nF53,⟨R0,fun t=>AV.tup [.s (.pl (.agg (.ints .u64 (f0a t)) 20)),.s (.pl (.int .i64 (f0b t)))]⟩),(nF9,⟨R1,fun t=>AV.bool (f1a t)⟩),(nF23,⟨R2,fun t=>AV.agg (.ints .u64 (f2a t)) 20⟩),(nF13,⟨R3,fun t=>AV.agg (.ints .u8 (f3a t)) 32⟩)],[],noE⟩,[]⟩
theorem OEv_ev (fu:Nat) (a b:List Int):afunc prog fF12 (g_OEv T0 R0 f0a f0b T1 R1 f1a T2 R2 f2a T3 R3 f3a) fu [.agg (.ints .u64 a) 8,.agg (.ints .u8 b) 32]=(R0 [.agg (.ints .u8 b) 32]).bind fun t=>bif decide (f0b t=(0:Int)) then (R1 [.agg (.ints .u64 a) 8]).bind fun t_1=>bif f1a t_1 then some (AV.tup [.s (.pl (.agg (.ints .u8 [(0:Int),0,0,0,0,0,0,0,0,0,0,0,0,0,0,0,0,0,0,0,0,0,0,0,0,0,0,0,0,0,0,0]) 32)),.s (.pl (.int .i64 (9:Int)))]) else bif !decide (f0b t=(0:Int)) then some (AV.tup [.s (.pl (.agg (.ints .u8 [(0:Int),0,0,0,0,0,0,0,0,0,0,0,0,0,0,0,0,0,0,0,0,0,0,0,0,0,0,0,0,0,0,0]) 32)),.s (.pl (.int .i64 (f0b t)))]) else (R2 [.agg (.ints .u64 (f0a t)) 20,.agg (.ints .u64 a) 8]).bind fun t=>(R3 [.agg (.ints .u64 (f2a t)) 20]).bind fun t=>some (AV.tup [.s (.pl (.agg (.ints .u8 (f3a t)) 32)),.s (.pl (.int .i64 (0:Int)))]) else bif !decide (f0b t=(0:Int)) then some (AV.tup [.s (.pl (.agg (.ints .u8 [(0:Int),0,0,0,0,0,0,0,0,0,0,0,0,0,0,0,0,0,0,0,0,0,0,0,0,0,0,0,0,0,0,0]) 32)),.s (.pl (.int .i64 (f0b t)))]) else (R2 [.agg (.ints .u64 (f0a t)) 20,.agg (.ints .u64 a) 8]).bind fun t=>(R3 [.agg (.ints .u64 (f2a t)) 20]).bind fun t=>some (AV.tup [.s (.pl (.agg (.ints .u8 (f3a t)) 32)),.s (.pl (.int .i64 (0:Int)))]):=by kernel_rfl
end
section
variable (T0:Type) (R0:List AV->Option T0) (f0a:T0->List Int) (T1:Type) (R1:List AV->Option T1) (f1a:T1->List UInt8) (T2:Type) (R2:List AV->Option T2) (f2a:T2->List Int)
def g_OEn:Cg:=⟨⟨gam [(nF13,⟨R0,fun t=>AV.agg (.ints .u8 (f0a t)) 32⟩),(nF63,⟨R1,fun t=>AV.str (f1a t)⟩),(nF103,⟨R2,fun t=>AV.agg (.ints .u8 (f2a t)) 64⟩)],[],noE⟩,[]⟩
theorem OEn_ev (fu:Nat) (s:Str) (p:Pt):afunc prog fF81 (g_OEn T0 R0 f0a T1 R1 f1a T2 R2 f2a) fu [.str s,eP p]=(R0 [.agg (.ints .u64 [(↑p.x.a:Int),(↑p.x.b:Int),(↑p.x.c:Int),(↑p.x.d:Int),(↑p.x.e:Int),(↑p.y.a:Int),(↑p.y.b:Int),(↑p.y.c:Int),(↑p.y.d:Int),(↑p.y.e:Int),(↑p.z.a:Int),(↑p.z.b:Int),(↑p.z.c:Int),(↑p.z.d:Int),(↑p.z.e:Int),(↑p.t.a:Int),(↑p.t.b:Int),(↑p.t.c:Int),(↑p.t.d:Int),(↑p.t.e:Int)]) 20]).bind fun t=>(R1 [.s (.dat (.strs ([s]++[List.map b8 (List.take 32 (List.drop 0 (f0a t)))])) 2 1)]).bind fun t=>(R2 [.s (.dat (.strs ([f1a t]++[[(70:UInt8),105,110,97,108,105,122,101]])) 2 1)]).bind fun t=>some (AV.str (List.map b8 (List.take 64 (List.drop 0 (f2a t))))):=by kernel_rfl
end
section
variable (T0:Type) (R0:List AV->Option T0) (f0a:T0->Int) (T1:Type) (R1:List AV->Option T1) (f1a:T1->List Int) (f1b:T1->Int) (T2:Type) (R2:List AV->Option T2) (f2a:T2->List Int) (T3:Type) (R3:List AV->Option T3) (f3a:T3->List Int) (T4:Type) (R4:List AV->Option T4) (f4a:T4->List UInt8)
def g_OFi:Cg:=⟨⟨gam [(nF80,⟨R0,fun t=>AV.int .i64 (f0a t)⟩),(nF53,⟨R1,fun t=>AV.tup [.s (.pl (.agg (.ints .u64 (f1a t)) 20)),.s (.pl (.int .i64 (f1b t)))]⟩),(nF82,⟨R2,fun t=>AV.agg (.ints .u64 (f2a t)) 8⟩),(nF23,⟨R3,fun t=>AV.agg (.ints .u64 (f3a t)) 20⟩),(nF81,⟨R4,fun t=>AV.str (f4a t)⟩)],[],noE⟩,[]⟩
theorem OFi_ev (fu:Nat) (s:Str) (a b:List Int):afunc prog fF32 (g_OFi T0 R0 f0a T1 R1 f1a f1b T2 R2 f2a T3 R3 f3a T4 R4 f4a) fu [.str s,.agg (.ints .u64 a) 8,.agg (.ints .u8 b) 32]=(R0 [.str s,.agg (.ints .u64 a) 8]).bind fun t=>bif !decide (f0a t=(0:Int)) then some (AV.tup [.s (.pl (.str [])),.s (.pl (.int .i64 (f0a t)))]) else (R1 [.agg (.ints .u8 b) 32]).bind fun t=>bif !decide (f1b t=(0:Int)) then some (AV.tup [.s (.pl (.str [])),.s (.pl (.int .i64 (f1b t)))]) else (R2 [.agg (.ints .u64 a) 8]).bind fun t_1=>(R3 [.agg (.ints .u64 (f1a t)) 20,.agg (.ints .u64 (f2a t_1)) 8]).bind fun t=>(R4 [.str s,.agg (.ints .u64 (f3a t)) 20]).bind fun t=>some (AV.tup [.s (.pl (.str (f4a t))),.s (.pl (.int .i64 (0:Int)))]):=by kernel_rfl
end
section
variable (T0:Type) (R0:List AV->Option T0) (f0a:T0->List Int) (f0b:T0->Int) (T1:Type) (R1:List AV->Option T1) (f1a:T1->List UInt8)
def g_OWh:Cg:=⟨⟨gam [(nF78,⟨R0,fun t=>AV.tup [.s (.pl (.agg (.ints .u64 (f0a t)) 20)),.s (.pl (.int .i64 (f0b t)))]⟩),(nF81,⟨R1,fun t=>AV.str (f1a t)⟩)],[],noE⟩,[]⟩
theorem OWh_ev (fu:Nat) (a:List Int) (s:Str):afunc prog fF33 (g_OWh T0 R0 f0a f0b T1 R1 f1a) fu [.agg (.ints .u64 a) 8,.str s]=(R0 [.str s,.agg (.ints .u64 a) 8]).bind fun t=>bif !decide (f0b t=(0:Int)) then some (AV.tup [.s (.pl (.str [])),.s (.pl (.int .i64 (f0b t)))]) else (R1 [.str s,.agg (.ints .u64 (f0a t)) 20]).bind fun t=>some (AV.tup [.s (.pl (.str (f1a t))),.s (.pl (.int .i64 (0:Int)))]):=by kernel_rfl
end
section
variable (T0:Type) (R0:List AV->Option T0) (f0a:T0->List Int)
def g_OSo:Cg:=⟨⟨gam [(nF34,⟨R0,fun t=>AV.tup [.s (.pl (.agg (.ints .u64 (f0a t)) 8)),.s (.pl (.int .i64 (0)))]⟩)],[],noE⟩,[(4,[1,2,3,9,10],[2,3])]⟩
def OSo_s1 (n3:Nat) (v9 v10:Int) (x_0 x_1:List Int) (m_2:Nat) (x_2:List Int):St:={ tm:=[(1,.s (.ptr 0 0 32)),(2,.s (.ptr 1 0 8)),(3,.s (.own 2 n3 1)),(9,.int .i64 v9),(10,.int .i64 v10)],hp:=[(0,{ ty:=23,n:=32,row:=Row.t (.ints .u8 x_0) }),(1,{ ty:=29,n:=8,row:=Row.t (.ints .u64 x_1) }),(2,{ ty:=5,n:=m_2,row:=Row.t (.ints .u8 x_2) })],nx:=3,sz:=27 }
def OSo_b1:Code:=bodyL (codeAt [1,1,0,1,2] (codeF fF7))
def OSo_k1 (fu:Nat):=kAt prog (g_OSo T0 R0 f0a) fu [1,1,0,1,2] (codeF fF7) (kFin prog fF7)
abbrev OSo_L1 (fu:Nat) (n3:Nat) (v9 v10:Int) (x_0 x_1:List Int) (m_2:Nat) (x_2:List Int):=lpA prog (g_OSo T0 R0 f0a) fu OSo_b1 (OSo_k1 T0 R0 f0a fu ) fu (some (OSo_s1 n3 v9 v10 x_0 x_1 m_2 x_2))
theorem OSo_ev (fu:Nat) (a:List Int):afunc prog fF7 (g_OSo T0 R0 f0a) fu [.agg (.ints .u8 a) 32]=OSo_L1 T0 R0 f0a fu 32 (32:Int) (0:Int) a [(0:Int),0,0,0,0,0,0,0] 32 (List.replicate 32 (0:Int)):=by kernel_rfl
def OSo_o1e0 (n3:Nat) (x_0:List Int) (m_1:Nat) (x_1:List Int):St:={ tm:=[(2,.s (.ptr 0 0 8)),(3,.s (.own 1 n3 1))],hp:=[(0,{ ty:=29,n:=8,row:=Row.t (.ints .u64 x_0) }),(1,{ ty:=5,n:=m_1,row:=Row.t (.ints .u8 x_1) })],nx:=2,sz:=27 }
theorem OSo_r1 {β:Type} (fu:Nat) (G:Option St->Option β) (H:Ex->Option St->Option β) (n3:Nat) (v9 v10:Int) (x_0 x_1:List Int) (m_2:Nat) (x_2:List Int):lpR prog (g_OSo T0 R0 f0a) fu OSo_b1 G H (OSo_s1 n3 v9 v10 x_0 x_1 m_2 x_2)=bif decide (v10 < v9) then bif decide ((0:Int) <= v10 /\ v10 < (32:Int)) then bif decide ((0:Int) <= v10 /\ v10 < (↑n3:Int)) then G (some (OSo_s1 n3 v9 (i64.wrap (v10+(1:Int))) x_0 x_1 m_2 (x_2.set v10.toNat (x_0.getD (0+v10.toNat) (0:Int))))) else none else none else H (Ex.exit 0) (some (OSo_o1e0 n3 x_1 m_2 x_2)):=by kernel_rfl
theorem OSo_c1e0 (fu:Nat) (n3:Nat) (x_0:List Int) (m_1:Nat) (x_1:List Int):OSo_k1 T0 R0 f0a fu  (Ex.exit 0) (OSo_o1e0 n3 x_0 m_1 x_1)=(R0 [.str (List.map b8 x_1)]).bind fun t=>some (AV.agg (.ints .u64 (f0a t)) 8):=by kernel_rfl
end
set_option maxRecDepth 4000
theorem parA_bad {a:List Int} (h:Nat.blt (vB a) P25=false):parA a=(neutP,8):=by
 unfold parA
 rw [h]; rfl
theorem parA_in {a:List Int} (h:Nat.blt (vB a) P25=true):parA a=cond (!oddF (fe (vB a)) && ((pIF (fe (vB a))).2 && (!oddF (pTF (fe (vB a))) && !zerF (pYF (fe (vB a)))))) (ptP (fe (vB a)),0) (neutP,8):=by
 unfold parA
 rw [h,Bool.true_and]; rfl
theorem ok_EParA:CallOk prog nF15 sEParA:=by
 refine afunc_okE (g:=gI_RPa) (fu:=fun _=>0) mixed gok_RPa hF15 (by kernel_rfl) ?_
 intro args t ht
 obtain ⟨a,rfl,ha,rfl⟩:=runB1_ok (F:=parA) ht
 refine (RPa_ev ..).trans ?_
 show _=some (ePE (parA a))
 have r0:=run_FParse ha
 have ne:=run_Neut
 cases hb:Nat.blt (vB a) P25
 ·have e0:parF a=(f0,7):=by unfold parF; rw [hb]; rfl
  rw [e0] at r0
  rw [parA_bad hb]
  generalize neutP=Np at *
  refine bstep r0 ?_
  rw [decide_eq_false (by decide:¬ ((7:Int)=0)),Bool.not_false,cond_true]
  refine bstep ne ?_
  rfl
 ·have e0:parF a=(fe (vB a),0):=by unfold parF; rw [hb]; rfl
  rw [e0] at r0
  rw [parA_in hb]
  clear e0 hb
  have hs:fOk (fe (vB a)):=fe_ok _
  generalize fe (vB a)=s at *
  have r1:=run_Odd hs
  have o1:fOk (fe 1):=fe_ok 1
  have u1:=pU1_ok hs
  have u2:=pU2_ok hs
  have uu:=mul_ok u2 u2
  have vv:=pVF_ok hs
  have kB:=pB_ok hs
  have kI:=pI_ok hs
  have kx:=pXF_ok hs
  have ky:=pYF_ok hs
  have kt:=pTF_ok hs
  have r5:rFSub [eF (fe 1),eF (mulF s s)]=some (pU1 s):=run_FSub o1 (mul_ok hs hs)
  have r6:rFAdd [eF (fe 1),eF (mulF s s)]=some (pU2 s):=run_FAdd o1 (mul_ok hs hs)
  have r7:=d_mul (mul_ok u1 u1)
  have r8:=run_FNeg (mul_ok dF_ok (mul_ok u1 u1))
  have r9:rFSub [eF (subF f0 (mulF dF (mulF (pU1 s) (pU1 s)))),eF (mulF (pU2 s) (pU2 s))]=some (pVF s):=run_FSub (sub_ok f0_ok) uu
  have r10:=run_FMul vv uu
  have r11:rFRat [eF (fe 1),eF (mulF (pVF s) (mulF (pU2 s) (pU2 s)))]=some (pIF s):=run_FRat o1 kB
  have r12:=run_FMul kI u2
  have r13:=run_FMul kI (mul_ok kI u2)
  have r14:=run_FMul (mul_ok kI (mul_ok kI u2)) vv
  have r15:=run_FAdd hs hs
  have r16:=run_FMul (add_ok hs hs) (mul_ok kI u2)
  have r17:rFAbs [eF (mulF (addF s s) (mulF (pIF s).1 (pU2 s)))]=some (pXF s):=run_FAbs (mul_ok (add_ok hs hs) (mul_ok kI u2))
  have r18:rFMul [eF (pU1 s),eF (mulF (mulF (pIF s).1 (mulF (pIF s).1 (pU2 s))) (pVF s))]=some (pYF s):=run_FMul u1 (mul_ok (mul_ok kI (mul_ok kI u2)) vv)
  have r19:rFMul [eF (pXF s),eF (pYF s)]=some (pTF s):=run_FMul kx ky
  have r20:=run_Odd kt
  have r21:=run_Zer ky
  have r22:=run_COf kx ky o1 kt
  have r23:=run_EPt (p:=⟨pXF s,pYF s,fe 1,pTF s⟩) ⟨kx,ky,o1,kt⟩
  have ep:ptP s=⟨pXF s,pYF s,fe 1,pTF s⟩:=rfl
  rw [ep]
  clear ep
  have r4:=run_FSq hs
  have r4u:=run_FSq u2
  have r4w:=run_FSq u1
  generalize neutP=Np at *
  generalize hq1:oddF (pTF s)=q1 at *
  generalize hq2:zerF (pYF s)=q2 at *
  generalize hq3:oddF s=q3 at *
  clear hq1 hq2 hq3
  generalize pTF s=pt at *
  generalize pXF s=px at *
  generalize pYF s=py at *
  generalize pIF s=I at *
  generalize pVF s=v at *
  generalize pU1 s=w1 at *
  generalize pU2 s=w2 at *
  refine bstep r0 ?_
  rw [decide_eq_true rfl,Bool.not_true,cond_false]
  refine bstep r1 ?_
  cases q3
  ·rw [cond_false,Bool.not_false,Bool.true_and]
   refine bstep (run_FOf (n:=1) (by decide)) ?_
   refine bstep r4 ?_
   refine bstep r5 ?_
   refine bstep r6 ?_
   refine bstep r4u ?_
   refine bstep (show rCD []=some () from rfl) ?_
   refine bstep r4w ?_
   refine bstep r7 ?_
   refine bstep r8 ?_
   refine bstep r9 ?_
   refine bstep r10 ?_
   refine bstep r11 ?_
   refine bstep r12 ?_
   refine bstep r13 ?_
   refine bstep r14 ?_
   refine bstep r15 ?_
   refine bstep r16 ?_
   refine bstep r17 ?_
   refine bstep r18 ?_
   refine bstep r19 ?_
   obtain ⟨I1,I2⟩:=I
   cases I2
   ·refine cstep rfl ?_
    refine bstep ne ?_
    rfl
   ·rw [show (!(I1,true).2)=false from rfl,cond_false]
    refine bstep r20 ?_
    cases q1
    ·rw [cond_false]
     refine bstep r21 ?_
     cases q2
     ·rw [cond_false]
      refine bstep r22 ?_
      refine bstep r23 ?_
      rfl
     ·refine cstep rfl ?_
      refine bstep ne ?_
      rfl
    ·refine cstep rfl ?_
     refine bstep ne ?_
     rfl
  ·refine cstep rfl ?_
   refine bstep ne ?_
   rfl
theorem run_EParA {a:List Int} (h:ok32 a=true):rEParA [eB32 a]=some (parA a):=run_B1 parA h
theorem parA_ok (a:List Int):pOk (parA a).1:=by
 cases hb:Nat.blt (vB a) P25
 ·rw [parA_bad hb]; exact neut_ok
 ·rw [parA_in hb]
  have hs:fOk (fe (vB a)):=fe_ok _
  generalize (!oddF (fe (vB a)) && ((pIF (fe (vB a))).2 && (!oddF (pTF (fe (vB a))) && !zerF (pYF (fe (vB a))))))=b
  cases b
  ·exact neut_ok
  ·exact ⟨pXF_ok hs,pYF_ok hs,fe_ok 1,pTF_ok hs⟩
theorem readA_fst (a:List Int):(readA a).1=(parA a).1:=by
 unfold readA
 cases (decide ((parA a).2=0) && samE (parA a).1 neutP) <;> rfl
theorem readA_ok (a:List Int):pOk (readA a).1:=by rw [readA_fst]; exact parA_ok a
abbrev gI_ORd:Cg:=g_ORd (Pt × Int) rEParA (fun t=>[↑t.fst.x.a,↑t.fst.x.b,↑t.fst.x.c,↑t.fst.x.d,↑t.fst.x.e,↑t.fst.y.a,↑t.fst.y.b,↑t.fst.y.c,↑t.fst.y.d,↑t.fst.y.e,↑t.fst.z.a,↑t.fst.z.b,↑t.fst.z.c,↑t.fst.z.d,↑t.fst.z.e,↑t.fst.t.a,↑t.fst.t.b,↑t.fst.t.c,↑t.fst.t.d,↑t.fst.t.e]) (fun t=>t.snd) (Bool) rENone (fun t=>t)
theorem gok_ORd:CfOk prog gI_ORd.c:=⟨gam_cons ok_EParA <| gam_cons ok_ENone <| gam_nil,fun _ _ h=>by cases h⟩
theorem ok_ERead:CallOk prog nF53 sERead:=by
 refine afunc_okE (g:=gI_ORd) (fu:=fun _=>0) mixed gok_ORd hF53 (by kernel_rfl) ?_
 intro args t ht
 obtain ⟨a,rfl,ha,rfl⟩:=runB1_ok (F:=readA) ht
 refine (ORd_ev ..).trans ?_
 show _=some (ePE (readA a))
 have r0:=run_EParA ha
 have r1:=run_ENone (parA_ok a)
 have e:readA a=cond (decide ((parA a).2=0) && samE (parA a).1 neutP) ((parA a).1,9) (parA a):=rfl
 rw [e]
 clear e
 refine bstep r0 ?_
 generalize samE (parA a).1 neutP=b at *
 generalize parA a=r at *
 obtain ⟨p,e⟩:=r
 dsimp only at *
 cases hd:decide (e=0)
 ·rfl
 ·rw [cond_true]
  refine bstep r1 ?_
  cases b
  ·rfl
  ·rfl
theorem run_ERead {a:List Int} (h:ok32 a=true):rERead [eB32 a]=some (readA a):=run_B1 readA h
theorem sim_nsm {g h:CP.G} (s:sim g h) (n:Nat):sim (CP.nsm n g) (CP.nsm n h):=by
 induction n with
 | zero=>exact sim_refl _
 | succ n ih=>
  rw [CP.nsm_add,CP.nsm_one,CP.nsm_add,CP.nsm_one]
  exact sim_add ih s
theorem Ev_sim {g h:CP.G} (hg:Ev g) (s:sim g h):Ev h:=by
 obtain ⟨t,k4,rfl⟩:=sim_to s
 exact Ev_add hg (Ev_e4 k4)
theorem e4_sim {g h:CP.G} (s:sim g h):e4 g ↔ e4 h:=by
 rw [<-sim_zero,<-sim_zero]
 exact ⟨fun k=>sim_trans (sim_symm s) k,fun k=>sim_trans s k⟩
def byP (p:Pt):List Int:=lo 32 (fv (bytesF p)%P25)
theorem byP_ok (p:Pt):ok32 (byP p)=true:=ok32_loL _
theorem read_good {p:Pt} {g:CP.G} (hp:PT p g) (hg:Ev g):∃ q h,parA (byP p)=(q,0) /\ PT q h /\ sim g h /\ Ev h:=by
 obtain ⟨a,h,ea,ha,hb,hgd,s,E,P⟩:=parse_ok hp hg
 refine ⟨_,h,?_,P,s,E⟩
 have e:byP p=a:=ea.symm
 rw [e]
 unfold parA
 rw [hb,hgd]; rfl
theorem read_some {p:Pt} {g:CP.G} (hp:PT p g) (hg:Ev g) (h4:¬ e4 g):∃ q h,parA (byP p)=(q,0) /\ readA (byP p)=(q,0) /\ PT q h /\ sim g h /\ Ev h:=by
 obtain ⟨q,h,e,Q,s,E⟩:=read_good hp hg
 refine ⟨q,h,e,?_,Q,s,E⟩
 have n:samE q neutP=false:=by
  rw [Bool.eq_false_iff]
  intro k
  exact h4 ((e4_sim s).2 ((none_eq Q).1 k))
 unfold readA
 rw [e]
 show cond (decide ((0:Int)=0) && samE q neutP) _ _=_
 rw [n,Bool.and_false]; rfl
theorem PT_tim {p:Pt} {g:CP.G} (hp:PT p g) {k:Nat} (hk:k < LN):PT (timesP p (bitsDn k 253)) (CP.nsm k g):=by
 have:=PT_times hp k
 rwa [nB_lt hk] at this
theorem eval_good {p:Pt} {g:CP.G} (hp:PT p g) (hg:Ev g) (h4:¬ e4 g) {k:Nat} (h0:0 < k) (hk:k < LN):∃ r h,evalA k (byP p)=(byP r,0) /\ PT r h /\ sim (CP.nsm k g) h /\ Ev h /\ ¬ e4 h:=by
 obtain ⟨q,h,_,e,Q,s,E⟩:=read_some hp hg h4
 have R:=PT_tim Q hk
 refine ⟨_,_,?_,R,sim_nsm s k,Ev_nsm E k,fun z=>h4 ((e4_sim s).2 (e4_free E h0 hk z))⟩
 have b:Nat.beq k 0=false:=by
  cases hb:Nat.beq k 0
  ·rfl
  ·exact absurd (Nat.eq_of_beq_eq_true hb) (by omega)
 unfold evalA
 rw [e,b]
 show cond (decide ((0:Int)=0)) _ _=_
 rw [decide_eq_true rfl]; rfl
theorem by_sim {p q:Pt} {g h:CP.G} (hp:PT p g) (hq:PT q h) (hg:Ev g) (s:sim g h):byP p=byP q:=(by_eq hp hq hg (Ev_sim hg s)).2 s
theorem mul_free {x y:Nat} (hx:0 < x) (hxL:x < LN) (hy:0 < y) (hyL:y < LN):0 < x*y%LN:=by
 rcases Nat.eq_zero_or_pos (x*y%LN) with h | h
 ·exfalso
  have hu:=inv_L hy hyL
  generalize y ^ (LN - 2)=u at hu
  have e:x*y*u%LN=x:=by
   rw [Nat.mul_assoc,Nat.mul_mod,hu,Nat.mul_one,Nat.mod_mod,Nat.mod_eq_of_lt hxL]
  rw [Nat.mul_mod,h,Nat.zero_mul,Nat.zero_mod] at e
  omega
 ·exact h
set_option maxRecDepth 4000
theorem ble_of {a b:Nat} (h:a <= b):Nat.ble a b=true:=by rw [Nat.ble_eq]; exact h
theorem ble_not {a b:Nat} (h:¬ a <= b):Nat.ble a b=false:=by
 cases hb:Nat.ble a b
 ·rfl
 ·rw [Nat.ble_eq] at hb; exact absurd hb h
theorem runSK_ok {T:Type} {F:Str->Nat->T} {args:List AV} {t:T} (h:runSK F args=some t):∃ s a,args=[.str s,W8 a] /\ ok8 a=true /\ s.length <= 1099511620000 /\ t=F s (val a):=by
 unfold runSK at h
 split at h
 ·obtain ⟨h1,h2⟩:=ctrueS h
  rw [Bool.and_eq_true,Nat.ble_eq] at h1
  exact ⟨_,_,rfl,h1.1,h1.2,h2.symm⟩
 ·cases h
theorem run_SK {T:Type} (F:Str->Nat->T) {s:Str} {a:List Int} (h:ok8 a=true) (hs:s.length <= 1099511620000):runSK F [.str s,W8 a]=some (F s (val a)):=by
 show cond (ok8 a && Nat.ble s.length 1099511620000) (some (F s (val a))) none=_
 rw [h,ble_of hs]; rfl
abbrev gI_OCx:Cg:=g_OCx 
theorem gok_OCx:CfOk prog gI_OCx.c:=⟨gam_nil,fun _ _ h=>by cases h⟩
theorem ok_OCtx:CallOk prog nF150 sOCtx:=by
 refine afunc_okE (g:=gI_OCx) (fu:=fun _=>0) mixed gok_OCx hF150 (by kernel_rfl) ?_
 intro args t ht
 unfold sOCtx at ht
 simp only at ht
 split at ht
 ·exact OCx_ev ..
 ·cases ht
theorem map64 {x:Str} (h:x.length=64):mapF x=((mapF x).1,0):=by
 unfold mapF
 rw [h]; rfl
theorem map64_ok {x:Str} (h:x.length=64):pOk (mapF x).1:=by
 unfold mapF
 rw [h]
 exact addP_ok (pOk_half _) (pOk_half _) d2_ok
theorem htg_ok (s:Str):pOk (htgP s):=map64_ok (xmdS_len _ _ _)
abbrev gI_OHg:Cg:=g_OHg (PUnit) rOCtx (Str × Int) rXmd (fun t=>t.fst) (fun t=>t.snd) (Pt) rNeut (fun t=>[↑t.x.a,↑t.x.b,↑t.x.c,↑t.x.d,↑t.x.e,↑t.y.a,↑t.y.b,↑t.y.c,↑t.y.d,↑t.y.e,↑t.z.a,↑t.z.b,↑t.z.c,↑t.z.d,↑t.z.e,↑t.t.a,↑t.t.b,↑t.t.c,↑t.t.d,↑t.t.e]) (Pt × Int) rMap (fun t=>[↑t.fst.x.a,↑t.fst.x.b,↑t.fst.x.c,↑t.fst.x.d,↑t.fst.x.e,↑t.fst.y.a,↑t.fst.y.b,↑t.fst.y.c,↑t.fst.y.d,↑t.fst.y.e,↑t.fst.z.a,↑t.fst.z.b,↑t.fst.z.c,↑t.fst.z.d,↑t.fst.z.e,↑t.fst.t.a,↑t.fst.t.b,↑t.fst.t.c,↑t.fst.t.d,↑t.fst.t.e]) (fun t=>t.snd)
theorem gok_OHg:CfOk prog gI_OHg.c:=⟨gam_cons ok_OCtx <| gam_cons ok_Xmd <| gam_cons ok_EId <| gam_cons ok_Map <| gam_nil,fun _ _ h=>by cases h⟩
theorem ok_Htg:CallOk prog nF121 sHtg:=by
 refine afunc_okE (g:=gI_OHg) (fu:=fun _=>0) mixed gok_OHg hF121 (by kernel_rfl) ?_
 intro args t ht
 unfold sHtg at ht
 simp only at ht
 split at ht
 ·rename_i s
  obtain ⟨h1,h2⟩:=ctrueS ht
  subst h2
  rw [Nat.ble_eq] at h1
  have o:rOCtx []=some ():=rfl
  have hj:okJ [s] 1=true:=by
   show (Nat.beq 1 1 && Nat.ble 1 1048000 && Nat.ble (Lib.join [s] []).length 1099511620000)=true
   rw [Lib.join_one,ble_of (show s.length <= 1099511620000 by omega)]; rfl
  have x:=run_Xmd (d:=oH2g++oCtx) (k:=64) (by decide) hj
  have e:xmdA (oH2g++oCtx) 64 (Lib.join [s] [])=(xmdS (oH2g++oCtx) 64 s,0):=by
   rw [Lib.join_one,xmdA,if_neg (by omega),if_neg (by decide)]; rfl
  rw [e] at x
  have m:=run_Map (xmdS (oH2g++oCtx) 64 s)
  rw [map64 (xmdS_len _ _ _)] at m
  have eh:htgP s=(mapF (xmdS (oH2g++oCtx) 64 s)).1:=rfl
  refine (OHg_ev ..).trans ?_
  show _=some (ePE (htgP s,0))
  rw [eh]
  generalize xmdS (oH2g++oCtx) 64 s=X at *
  generalize (mapF X).1=M at *
  refine bstep o ?_
  refine bstep x ?_
  rw [decide_eq_true rfl,Bool.not_true,cond_false]
  refine bstep m ?_
  rfl
 ·cases ht
theorem run_Htg {s:Str} (h:s.length <= 65535):rHtg [.str s]=some (htgP s,0):=by
 show cond (Nat.ble s.length 65535) (some (htgP s,0)) none=_
 rw [ble_of h]; rfl
abbrev gI_OMy:Cg:=g_OMy (Bool) rScZero (fun t=>t)
theorem gok_OMy:CfOk prog gI_OMy.c:=⟨gam_cons ok_ScZero <| gam_nil,fun _ _ h=>by cases h⟩
theorem ok_May:CallOk prog nF80 sMay:=by
 refine afunc_okE (g:=gI_OMy) (fu:=fun _=>0) mixed gok_OMy hF80 (by kernel_rfl) ?_
 intro args t ht
 obtain ⟨s,a,rfl,ha,hs,rfl⟩:=runSK_ok (F:=mayE) ht
 refine (OMy_ev ..).trans ?_
 show _=some (AV.int .i64 (mayE s (val a)))
 have z:rScZero [W8 a]=some (Nat.beq (val a) 0):=run1_some (fun a=>Nat.beq (val a) 0) ha
 unfold mayE
 by_cases h:s.length <= 65535
 ·rw [ble_of h,cond_true,decide_eq_false (by omega),cond_false]
  refine bstep z ?_
  cases Nat.beq (val a) 0 <;> rfl
 ·rw [ble_not h,cond_false,decide_eq_true (by omega),cond_true]
theorem run_May {s:Str} {a:List Int} (h:ok8 a=true) (hs:s.length <= 1099511620000):rMay [.str s,W8 a]=some (mayE s (val a)):=run_SK mayE h hs
theorem may_0 {s:Str} {k:Nat} (h:mayE s k=0):s.length <= 65535 /\ Nat.beq k 0=false:=by
 unfold mayE at h
 cases h1:Nat.ble s.length 65535
 ·rw [h1] at h; cases h
 ·rw [Nat.ble_eq] at h1
  refine ⟨h1,?_⟩
  cases h2:Nat.beq k 0
  ·rfl
  ·rw [ble_of h1,h2] at h; cases h
theorem timK_yes {s:Str} {k:Nat} (h:mayE s k=0):timK s k=cond (samE (timesP (htgP s) (bitsDn k 253)) neutP) (neutP,9) (timesP (htgP s) (bitsDn k 253),0):=by
 unfold timK
 rw [decide_eq_true h]; rfl
theorem timK_no {s:Str} {k:Nat} (h:¬ mayE s k=0):timK s k=(neutP,mayE s k):=by
 unfold timK
 rw [decide_eq_false h]; rfl
abbrev gI_OTi:Cg:=g_OTi (Int) rMay (fun t=>t) (Pt) rNeut (fun t=>[↑t.x.a,↑t.x.b,↑t.x.c,↑t.x.d,↑t.x.e,↑t.y.a,↑t.y.b,↑t.y.c,↑t.y.d,↑t.y.e,↑t.z.a,↑t.z.b,↑t.z.c,↑t.z.d,↑t.z.e,↑t.t.a,↑t.t.b,↑t.t.c,↑t.t.d,↑t.t.e]) (Pt × Int) rHtg (fun t=>[↑t.fst.x.a,↑t.fst.x.b,↑t.fst.x.c,↑t.fst.x.d,↑t.fst.x.e,↑t.fst.y.a,↑t.fst.y.b,↑t.fst.y.c,↑t.fst.y.d,↑t.fst.y.e,↑t.fst.z.a,↑t.fst.z.b,↑t.fst.z.c,↑t.fst.z.d,↑t.fst.z.e,↑t.fst.t.a,↑t.fst.t.b,↑t.fst.t.c,↑t.fst.t.d,↑t.fst.t.e]) (fun t=>t.snd) (Pt) rTimes (fun t=>[↑t.x.a,↑t.x.b,↑t.x.c,↑t.x.d,↑t.x.e,↑t.y.a,↑t.y.b,↑t.y.c,↑t.y.d,↑t.y.e,↑t.z.a,↑t.z.b,↑t.z.c,↑t.z.d,↑t.z.e,↑t.t.a,↑t.t.b,↑t.t.c,↑t.t.d,↑t.t.e]) (Bool) rENone (fun t=>t)
theorem gok_OTi:CfOk prog gI_OTi.c:=⟨gam_cons ok_May <| gam_cons ok_EId <| gam_cons ok_Htg <| gam_cons ok_ETimes <| gam_cons ok_ENone <| gam_nil,fun _ _ h=>by cases h⟩
theorem ok_TimK:CallOk prog nF78 sTimK:=by
 refine afunc_okE (g:=gI_OTi) (fu:=fun _=>0) mixed gok_OTi hF78 (by kernel_rfl) ?_
 intro args t ht
 obtain ⟨s,a,rfl,ha,hs,rfl⟩:=runSK_ok (F:=timK) ht
 refine (OTi_ev ..).trans ?_
 show _=some (ePE (timK s (val a)))
 have y:=run_May ha hs
 have ne:=run_Neut
 refine bstep y ?_
 by_cases h:mayE s (val a)=0
 ·obtain ⟨hl,hk⟩:=may_0 h
  have g:=run_Htg hl
  have t:=run_Times (htg_ok s) ha
  have n:=run_ENone (timesP_ok (htg_ok s) (bitsDn (val a) 253))
  rw [timK_yes h,h]
  generalize samE (timesP (htgP s) (bitsDn (val a) 253)) neutP=b at *
  generalize timesP (htgP s) (bitsDn (val a) 253)=T at *
  generalize htgP s=H at *
  generalize neutP=Np at *
  rw [decide_eq_true rfl,Bool.not_true,cond_false]
  refine bstep g ?_
  rw [decide_eq_true rfl,Bool.not_true,cond_false]
  refine bstep t ?_
  refine bstep n ?_
  cases b
  ·rfl
  ·refine cstep rfl ?_
   refine bstep ne ?_
   rfl
 ·rw [timK_no h]
  generalize mayE s (val a)=e at *
  generalize neutP=Np at *
  rw [decide_eq_false h,Bool.not_false,cond_true]
  refine bstep ne ?_
  rfl
theorem run_TimK {s:Str} {a:List Int} (h:ok8 a=true) (hs:s.length <= 1099511620000):rTimK [.str s,W8 a]=some (timK s (val a)):=run_SK timK h hs
abbrev gI_OBl:Cg:=g_OBl (Pt × Int) rTimK (fun t=>[↑t.fst.x.a,↑t.fst.x.b,↑t.fst.x.c,↑t.fst.x.d,↑t.fst.x.e,↑t.fst.y.a,↑t.fst.y.b,↑t.fst.y.c,↑t.fst.y.d,↑t.fst.y.e,↑t.fst.z.a,↑t.fst.z.b,↑t.fst.z.c,↑t.fst.z.d,↑t.fst.z.e,↑t.fst.t.a,↑t.fst.t.b,↑t.fst.t.c,↑t.fst.t.d,↑t.fst.t.e]) (fun t=>t.snd)
theorem gok_OBl:CfOk prog gI_OBl.c:=⟨gam_cons ok_TimK <| gam_nil,fun _ _ h=>by cases h⟩
theorem ok_Blind:CallOk prog nF30 sTimK:=by
 refine afunc_okE (g:=gI_OBl) (fu:=fun _=>0) mixed gok_OBl hF30 (by kernel_rfl) ?_
 intro args t ht
 obtain ⟨s,a,rfl,ha,hs,rfl⟩:=runSK_ok (F:=timK) ht
 refine (OBl_ev ..).trans ?_
 refine bstep (run_TimK ha hs) ?_
 rfl
theorem evalA_eq (k:Nat) (b:List Int):evalA k b=cond (decide ((readA b).2=0)) (cond (Nat.beq k 0) (zer32,9) (lo 32 (fv (bytesF (timesP (readA b).1 (bitsDn k 253)))%P25),0)) (zer32,(readA b).2):=rfl
abbrev gI_OEv:Cg:=g_OEv (Pt × Int) rERead (fun t=>[↑t.fst.x.a,↑t.fst.x.b,↑t.fst.x.c,↑t.fst.x.d,↑t.fst.x.e,↑t.fst.y.a,↑t.fst.y.b,↑t.fst.y.c,↑t.fst.y.d,↑t.fst.y.e,↑t.fst.z.a,↑t.fst.z.b,↑t.fst.z.c,↑t.fst.z.d,↑t.fst.z.e,↑t.fst.t.a,↑t.fst.t.b,↑t.fst.t.c,↑t.fst.t.d,↑t.fst.t.e]) (fun t=>t.snd) (Bool) rScZero (fun t=>t) (Pt) rTimes (fun t=>[↑t.x.a,↑t.x.b,↑t.x.c,↑t.x.d,↑t.x.e,↑t.y.a,↑t.y.b,↑t.y.c,↑t.y.d,↑t.y.e,↑t.z.a,↑t.z.b,↑t.z.c,↑t.z.d,↑t.z.e,↑t.t.a,↑t.t.b,↑t.t.c,↑t.t.d,↑t.t.e]) (List Int) rEBytes (fun t=>t)
theorem gok_OEv:CfOk prog gI_OEv.c:=⟨gam_cons ok_ERead <| gam_cons ok_ScZero <| gam_cons ok_ETimes <| gam_cons ok_EBytes <| gam_nil,fun _ _ h=>by cases h⟩
theorem ok_Eval:CallOk prog nF12 sEval:=by
 refine afunc_okE (g:=gI_OEv) (fu:=fun _=>0) mixed gok_OEv hF12 (by kernel_rfl) ?_
 intro args t ht
 unfold sEval at ht
 simp only at ht
 split at ht
 ·rename_i a b
  obtain ⟨h1,h2⟩:=ctrueS ht
  subst h2
  rw [Bool.and_eq_true] at h1
  obtain ⟨ha,hb⟩:=h1
  refine (OEv_ev ..).trans ?_
  show _=some (AV.tup [.s (.pl (.agg (.ints .u8 (evalA (val a) b).1) 32)),.s (.pl (.int .i64 (evalA (val a) b).2))])
  have r:=run_ERead hb
  have hr:=readA_ok b
  have z:rScZero [W8 a]=some (Nat.beq (val a) 0):=run1_some (fun a=>Nat.beq (val a) 0) ha
  rw [evalA_eq]
  generalize readA b=R at *
  obtain ⟨p,e⟩:=R
  dsimp only at *
  have t:=run_Times hr ha
  have y:=run_EBytes (timesP_ok hr (bitsDn (val a) 253))
  generalize timesP p (bitsDn (val a) 253)=T at *
  generalize lo 32 (fv (bytesF T)%P25)=L at *
  refine bstep r ?_
  by_cases h:e=0
  ·subst h
   rw [decide_eq_true rfl,cond_true,cond_true]
   refine bstep z ?_
   cases Nat.beq (val a) 0
   ·rw [cond_false,cond_false,Bool.not_true,cond_false]
    refine bstep t ?_
    refine bstep y ?_
    rfl
   ·rfl
  ·rw [decide_eq_false h,cond_false,cond_false,Bool.not_false,cond_true]; rfl
 ·cases ht
theorem run_Eval {a b:List Int} (ha:ok8 a=true) (hb:ok32 b=true):rEval [W8 a,eB32 b]=some (evalA (val a) b):=by
 show cond (ok8 a && ok32 b) (some (evalA (val a) b)) none=_
 rw [ha,hb]; rfl
theorem hS_take (x:Str):List.map b8 (List.take 64 (List.drop 0 (up (sumB x))))=hS x:=by
 rw [List.drop_zero,List.take_of_length_le (by rw [up_len,sumB_len]; omega)]; rfl
abbrev gI_OEn:Cg:=g_OEn (List Int) rEBytes (fun t=>t) (List UInt8) rCounted (fun t=>t) (List Nat) rSum (fun t=>up t)
theorem gok_OEn:CfOk prog gI_OEn.c:=⟨gam_cons ok_EBytes <| gam_cons ok_Counted <| gam_cons ok_Sum <| gam_nil,fun _ _ h=>by cases h⟩
theorem ok_End:CallOk prog nF81 sEnd:=by
 refine afunc_okE (g:=gI_OEn) (fu:=fun _=>0) mixed gok_OEn hF81 (by kernel_rfl) ?_
 intro args t ht
 unfold sEnd at ht
 simp only at ht
 split at ht
 ·rename_i s l
  split at ht
  ·rename_i p hp
   obtain ⟨h1,h2⟩:=ctrueS ht
   subst h2
   rw [Nat.ble_eq] at h1
   obtain ⟨rfl,ok⟩:=ptL_ok hp
   refine (OEn_ev ..).trans ?_
   show _=some (AV.str (endS s p))
   have y:=run_EBytes ok
   have eL:(lo 32 (fv (bytesF p)%P25)).length=32:=length_lo _ _
   have es:endS s p=hS (cntL [s,(lo 32 (fv (bytesF p)%P25)).map b8]++oFin):=rfl
   rw [es]
   generalize lo 32 (fv (bytesF p)%P25)=L at *
   have tk:List.map b8 (List.take 32 (List.drop 0 L))=L.map b8:=by rw [List.drop_zero,List.take_of_length_le (by omega)]
   have cl:(cntL [s,L.map b8]).length=s.length+36:=by
    show ((pre2 s.length++s)++((pre2 (L.map b8).length++L.map b8)++[])).length=_
    rw [List.length_append,List.length_append,List.append_nil,List.length_append,List.length_map,eL]
    show 2+s.length+(2+32)=_
    omega
   have c:=run_Counted (ss:=[s,L.map b8]) (n:=2) rfl (by show 2 <= 1048576; omega) (by rw [cl]; omega)
   have j:Lib.join [cntL [s,L.map b8],oFin] []=cntL [s,L.map b8]++oFin:=rfl
   have hs:okSum [cntL [s,L.map b8],oFin] 2=true:=by
    show (Nat.beq 2 2 && Nat.ble 2 1048576 && Nat.ble (Lib.join [cntL [s,L.map b8],oFin] []).length 1099511627776)=true
    rw [j,List.length_append,cl,ble_of (show s.length+36+oFin.length <= 1099511627776 by show s.length+36+8 <= _; omega)]; rfl
   have u:=run_Sum hs
   rw [j] at u
   refine bstep y ?_
   rw [tk]
   refine bstep c ?_
   refine bstep u ?_
   rw [hS_take]
  ·cases ht
 ·cases ht
theorem run_End {s:Str} {p:Pt} (h:s.length <= 65535) (hp:pOk p):rEnd [.str s,eP p]=some (endS s p):=by
 show (match ptL (rowP p) with
  | some p=>cond (Nat.ble s.length 65535) (some (endS s p)) none
  | none=>none)=_
 rw [ptL_row hp]
 show cond (Nat.ble s.length 65535) _ _=_
 rw [ble_of h]; rfl
end
end Go.Eng
