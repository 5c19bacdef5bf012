import Derived.Test.YteipjabipehbpaaGreatZO3
namespace Go.Eng
open Go.IntKind (u64 i64 u8)
noncomputable section
open Go Go.Proofs
set_option linter.all false
def opv:Str:=[79,80,65,81,85,69,118,49,45]
def preT (a b c d e f g:Str):Str:=opv++cntL [a,b]++c++cntL [d]++e++f++g
def preK (a b c d e f g:Str):Str × Int:=cond (Nat.ble a.length 65535 && Nat.ble b.length 65535 && Nat.ble d.length 65535) (preT a b c d e f g,0) ([],5)
def okPre (c e f g:Str):Bool:=Nat.ble c.length 100000 && Nat.ble e.length 100000 && Nat.ble f.length 100000 && Nat.ble g.length 100000
def okP2 (a b d:Str):Bool:=Nat.ble a.length 100000 && Nat.ble b.length 100000 && Nat.ble d.length 100000
def sPre:Summ where
 T:=Str × Int
 run:=fun
  | [.c (.s (.pl (.agg (.strs [a,b,c,d,e,f,g]) 7)))]=>cond (okPre c e f g && okP2 a b d) (some (preK a b c d e f g)) none
  | _=>none
 enc:=eSE
def rPre:List AV->Option (Str × Int):=sPre.run
def sCnt13:Summ where
 T:=Str
 run:=fun
  | [.c (.s (.pl (.str s)))]=>cond (Nat.ble s.length 100000) (some (pre2 s.length++s)) none
  | _=>none
 enc:=fun t=>.str t
def rCnt13:List AV->Option Str:=sCnt13.run
def sRefDer:Summ:={ T:=Str × Str × Str,run:=sDerive.run,enc:=fun t=>.agg (.strs [t.1,t.2.1,t.2.2]) 3 }
def rRefDer:List AV->Option (Str × Str × Str):=sRefDer.run
section
variable (T0:Type) (R0:List AV->Option T0) (f0a:T0->List UInt8)
def g_AkN:Cg:=⟨⟨gam [(nF63,⟨R0,fun t=>AV.str (f0a t)⟩)],[],noE⟩,[]⟩
theorem AkN_ev (fu:Nat) (a b c d e f g:Str):afunc prog fF18 (g_AkN T0 R0 f0a) fu [.agg (.strs [a,b,c,d,e,f,g]) 7]=bif decide ((65535:Int) < if (↑(List.length d):Int) > if (↑(List.length b):Int) > (↑(List.length a):Int) then (↑(List.length b):Int) else (↑(List.length a):Int) then (↑(List.length d):Int) else if (↑(List.length b):Int) > (↑(List.length a):Int) then (↑(List.length b):Int) else (↑(List.length a):Int)) then some (AV.tup [.s (.pl (.str [])),.s (.pl (.int .i64 (5:Int)))]) else (R0 [.s (.dat (.strs ([a]++[b])) 2 1)]).bind fun t=>bif decide (9+(f0a t).length <= 9223372036854775807) then bif decide (List.length ([(79:UInt8),80,65,81,85,69,118,49,45]++f0a t)+List.length c <= 9223372036854775807) then (R0 [.s (.dat (.strs [d]) 1 1)]).bind fun t_1=>bif decide (List.length ([(79:UInt8),80,65,81,85,69,118,49,45]++f0a t++c)+(f0a t_1).length <= 9223372036854775807) then bif decide (List.length ([(79:UInt8),80,65,81,85,69,118,49,45]++f0a t++c++f0a t_1)+List.length e <= 9223372036854775807) then bif decide (List.length ([(79:UInt8),80,65,81,85,69,118,49,45]++f0a t++c++f0a t_1++e)+List.length f <= 9223372036854775807) then bif decide (List.length ([(79:UInt8),80,65,81,85,69,118,49,45]++f0a t++c++f0a t_1++e++f)+List.length g <= 9223372036854775807) then some (AV.tup [.s (.pl (.str ([(79:UInt8),80,65,81,85,69,118,49,45]++f0a t++c++f0a t_1++e++f++g))),.s (.pl (.int .i64 (0:Int)))]) else none else none else none else none else none else none:=by kernel_rfl
end
section
variable (T0:Type) (R0:List AV->Option T0) (f0a:T0->List UInt8)
def g_AkG:Cg:=⟨⟨gam [(nF64,⟨R0,fun t=>AV.str (f0a t)⟩)],[],noE⟩,[]⟩
theorem AkG_ev (fu:Nat) (s:Str):afunc prog fF19 (g_AkG T0 R0 f0a) fu [.str s]=(R0 [.int .i64 (↑(List.length s):Int)]).bind fun t=>bif decide ((f0a t).length+List.length s <= 9223372036854775807) then some (AV.str (f0a t++s)) else none:=by kernel_rfl
end
section
variable (T0:Type) (R0:List AV->Option T0) (f0a:T0->List UInt8) (T1:Type) (R1:List AV->Option T1) (f1a:T1->List UInt8) (T2:Type) (R2:List AV->Option T2) (f2a:T2->List UInt8)
def g_AkR:Cg:=⟨⟨gam [(nF69,⟨R0,fun t=>AV.str (f0a t)⟩),(nF70,⟨R1,fun t=>AV.str (f1a t)⟩),(nF71,⟨R2,fun t=>AV.str (f2a t)⟩)],[],noE⟩,[]⟩
theorem AkR_ev (fu:Nat) (s p:Str):afunc prog fF21 (g_AkR T0 R0 f0a T1 R1 f1a T2 R2 f2a) fu [.str s,.str p]=(R0 [.str [],.str s]).bind fun t=>(R1 [.str p]).bind fun t_1=>(R2 [.str (f0a t),.str [(72:UInt8),97,110,100,115,104,97,107,101,83,101,99,114,101,116],.str (f1a t_1),.int .i64 (64:Int)]).bind fun t_2=>(R2 [.str (f2a t_2),.str [(83:UInt8),101,114,118,101,114,77,65,67],.str [],.int .i64 (64:Int)]).bind fun t_3=>(R0 [.str (f2a t_3),.str (f1a t_1)]).bind fun t_4=>(R2 [.str (f2a t_2),.str [(67:UInt8),108,105,101,110,116,77,65,67],.str [],.int .i64 (64:Int)]).bind fun t_5=>bif decide (List.length p+(f0a t_4).length <= 9223372036854775807) then (R1 [.str (p++f0a t_4)]).bind fun t_6=>(R0 [.str (f2a t_5),.str (f1a t_6)]).bind fun t_7=>(R2 [.str (f0a t),.str [(83:UInt8),101,115,115,105,111,110,75,101,121],.str (f1a t_1),.int .i64 (64:Int)]).bind fun t=>some (AV.agg (.strs ([f2a t]++([f0a t_4]++[f0a t_7]))) 3) else none:=by kernel_rfl
end
section
variable (T0:Type) (R0:List AV->Option T0) (T1:Type) (R1:List AV->Option T1) (f1a:T1->Str) (f1b:T1->Int) (T2:Type) (R2:List AV->Option T2) (f2a:T2->List UInt8) (T3:Type) (R3:List AV->Option T3) (f3a f3b f3c:T3->Str) (T4:Type) (R4:List AV->Option T4) (f4a f4b f4c:T4->Str)
def g_AkV:Cg:=⟨⟨gam [(nF17,⟨R0,fun t=>AV.bool (true)⟩),(nF18,⟨R1,fun t=>AV.tup [.s (.pl (.str (f1a t))),.s (.pl (.int .i64 (f1b t)))]⟩),(nF19,⟨R2,fun t=>AV.str (f2a t)⟩),(nF20,⟨R3,fun t=>AV.agg (.strs [(f3a t),(f3b t),(f3c t)]) 3⟩),(nF21,⟨R4,fun t=>AV.agg (.strs [(f4a t),(f4b t),(f4c t)]) 3⟩)],[],noE⟩,[]⟩
theorem AkV_ev (fu:Nat) (a b c d e f g s:Str):afunc prog f_opalinelaw13_AkeTalks (g_AkV T0 R0 T1 R1 f1a f1b T2 R2 f2a T3 R3 f3a f3b f3c T4 R4 f4a f4b f4c) fu [.agg (.strs [a,b,c,d,e,f,g]) 7,.str s]=(R0 []).bind fun t=>bif decide ((400:Int) < if (↑(List.length s):Int) > if (↑(List.length g):Int) > if (↑(List.length f):Int) > if (↑(List.length e):Int) > if (↑(List.length d):Int) > if (↑(List.length c):Int) > if (↑(List.length b):Int) > (↑(List.length a):Int) then (↑(List.length b):Int) else (↑(List.length a):Int) then (↑(List.length c):Int) else if (↑(List.length b):Int) > (↑(List.length a):Int) then (↑(List.length b):Int) else (↑(List.length a):Int) then (↑(List.length d):Int) else if (↑(List.length c):Int) > if (↑(List.length b):Int) > (↑(List.length a):Int) then (↑(List.length b):Int) else (↑(List.length a):Int) then (↑(List.length c):Int) else if (↑(List.length b):Int) > (↑(List.length a):Int) then (↑(List.length b):Int) else (↑(List.length a):Int) then (↑(List.length e):Int) else if (↑(List.length d):Int) > if (↑(List.length c):Int) > if (↑(List.length b):Int) > (↑(List.length a):Int) then (↑(List.length b):Int) else (↑(List.length a):Int) then (↑(List.length c):Int) else if (↑(List.length b):Int) > (↑(List.length a):Int) then (↑(List.length b):Int) else (↑(List.length a):Int) then (↑(List.length d):Int) else if (↑(List.length c):Int) > if (↑(List.length b):Int) > (↑(List.length a):Int) then (↑(List.length b):Int) else (↑(List.length a):Int) then (↑(List.length c):Int) else if (↑(List.length b):Int) > (↑(List.length a):Int) then (↑(List.length b):Int) else (↑(List.length a):Int) then (↑(List.length f):Int) else if (↑(List.length e):Int) > if (↑(List.length d):Int) > if (↑(List.length c):Int) > if (↑(List.length b):Int) > (↑(List.length a):Int) then (↑(List.length b):Int) else (↑(List.length a):Int) then (↑(List.length c):Int) else if (↑(List.length b):Int) > (↑(List.length a):Int) then (↑(List.length b):Int) else (↑(List.length a):Int) then (↑(List.length d):Int) else if (↑(List.length c):Int) > if (↑(List.length b):Int) > (↑(List.length a):Int) then (↑(List.length b):Int) else (↑(List.length a):Int) then (↑(List.length c):Int) else if (↑(List.length b):Int) > (↑(List.length a):Int) then (↑(List.length b):Int) else (↑(List.length a):Int) then (↑(List.length e):Int) else if (↑(List.length d):Int) > if (↑(List.length c):Int) > if (↑(List.length b):Int) > (↑(List.length a):Int) then (↑(List.length b):Int) else (↑(List.length a):Int) then (↑(List.length c):Int) else if (↑(List.length b):Int) > (↑(List.length a):Int) then (↑(List.length b):Int) else (↑(List.length a):Int) then (↑(List.length d):Int) else if (↑(List.length c):Int) > if (↑(List.length b):Int) > (↑(List.length a):Int) then (↑(List.length b):Int) else (↑(List.length a):Int) then (↑(List.length c):Int) else if (↑(List.length b):Int) > (↑(List.length a):Int) then (↑(List.length b):Int) else (↑(List.length a):Int) then (↑(List.length g):Int) else if (↑(List.length f):Int) > if (↑(List.length e):Int) > if (↑(List.length d):Int) > if (↑(List.length c):Int) > if (↑(List.length b):Int) > (↑(List.length a):Int) then (↑(List.length b):Int) else (↑(List.length a):Int) then (↑(List.length c):Int) else if (↑(List.length b):Int) > (↑(List.length a):Int) then (↑(List.length b):Int) else (↑(List.length a):Int) then (↑(List.length d):Int) else if (↑(List.length c):Int) > if (↑(List.length b):Int) > (↑(List.length a):Int) then (↑(List.length b):Int) else (↑(List.length a):Int) then (↑(List.length c):Int) else if (↑(List.length b):Int) > (↑(List.length a):Int) then (↑(List.length b):Int) else (↑(List.length a):Int) then (↑(List.length e):Int) else if (↑(List.length d):Int) > if (↑(List.length c):Int) > if (↑(List.length b):Int) > (↑(List.length a):Int) then (↑(List.length b):Int) else (↑(List.length a):Int) then (↑(List.length c):Int) else if (↑(List.length b):Int) > (↑(List.length a):Int) then (↑(List.length b):Int) else (↑(List.length a):Int) then (↑(List.length d):Int) else if (↑(List.length c):Int) > if (↑(List.length b):Int) > (↑(List.length a):Int) then (↑(List.length b):Int) else (↑(List.length a):Int) then (↑(List.length c):Int) else if (↑(List.length b):Int) > (↑(List.length a):Int) then (↑(List.length b):Int) else (↑(List.length a):Int) then (↑(List.length f):Int) else if (↑(List.length e):Int) > if (↑(List.length d):Int) > if (↑(List.length c):Int) > if (↑(List.length b):Int) > (↑(List.length a):Int) then (↑(List.length b):Int) else (↑(List.length a):Int) then (↑(List.length c):Int) else if (↑(List.length b):Int) > (↑(List.length a):Int) then (↑(List.length b):Int) else (↑(List.length a):Int) then (↑(List.length d):Int) else if (↑(List.length c):Int) > if (↑(List.length b):Int) > (↑(List.length a):Int) then (↑(List.length b):Int) else (↑(List.length a):Int) then (↑(List.length c):Int) else if (↑(List.length b):Int) > (↑(List.length a):Int) then (↑(List.length b):Int) else (↑(List.length a):Int) then (↑(List.length e):Int) else if (↑(List.length d):Int) > if (↑(List.length c):Int) > if (↑(List.length b):Int) > (↑(List.length a):Int) then (↑(List.length b):Int) else (↑(List.length a):Int) then (↑(List.length c):Int) else if (↑(List.length b):Int) > (↑(List.length a):Int) then (↑(List.length b):Int) else (↑(List.length a):Int) then (↑(List.length d):Int) else if (↑(List.length c):Int) > if (↑(List.length b):Int) > (↑(List.length a):Int) then (↑(List.length b):Int) else (↑(List.length a):Int) then (↑(List.length c):Int) else if (↑(List.length b):Int) > (↑(List.length a):Int) then (↑(List.length b):Int) else (↑(List.length a):Int) then (↑(List.length s):Int) else if (↑(List.length g):Int) > if (↑(List.length f):Int) > if (↑(List.length e):Int) > if (↑(List.length d):Int) > if (↑(List.length c):Int) > if (↑(List.length b):Int) > (↑(List.length a):Int) then (↑(List.length b):Int) else (↑(List.length a):Int) then (↑(List.length c):Int) else if (↑(List.length b):Int) > (↑(List.length a):Int) then (↑(List.length b):Int) else (↑(List.length a):Int) then (↑(List.length d):Int) else if (↑(List.length c):Int) > if (↑(List.length b):Int) > (↑(List.length a):Int) then (↑(List.length b):Int) else (↑(List.length a):Int) then (↑(List.length c):Int) else if (↑(List.length b):Int) > (↑(List.length a):Int) then (↑(List.length b):Int) else (↑(List.length a):Int) then (↑(List.length e):Int) else if (↑(List.length d):Int) > if (↑(List.length c):Int) > if (↑(List.length b):Int) > (↑(List.length a):Int) then (↑(List.length b):Int) else (↑(List.length a):Int) then (↑(List.length c):Int) else if (↑(List.length b):Int) > (↑(List.length a):Int) then (↑(List.length b):Int) else (↑(List.length a):Int) then (↑(List.length d):Int) else if (↑(List.length c):Int) > if (↑(List.length b):Int) > (↑(List.length a):Int) then (↑(List.length b):Int) else (↑(List.length a):Int) then (↑(List.length c):Int) else if (↑(List.length b):Int) > (↑(List.length a):Int) then (↑(List.length b):Int) else (↑(List.length a):Int) then (↑(List.length f):Int) else if (↑(List.length e):Int) > if (↑(List.length d):Int) > if (↑(List.length c):Int) > if (↑(List.length b):Int) > (↑(List.length a):Int) then (↑(List.length b):Int) else (↑(List.length a):Int) then (↑(List.length c):Int) else if (↑(List.length b):Int) > (↑(List.length a):Int) then (↑(List.length b):Int) else (↑(List.length a):Int) then (↑(List.length d):Int) else if (↑(List.length c):Int) > if (↑(List.length b):Int) > (↑(List.length a):Int) then (↑(List.length b):Int) else (↑(List.length a):Int) then (↑(List.length c):Int) else if (↑(List.length b):Int) > (↑(List.length a):Int) then (↑(List.length b):Int) else (↑(List.length a):Int) then (↑(List.length e):Int) else if (↑(List.length d):Int) > if (↑(List.length c):Int) > if (↑(List.length b):Int) > (↑(List.length a):Int) then (↑(List.length b):Int) else (↑(List.length a):Int) then (↑(List.length c):Int) else if (↑(List.length b):Int) > (↑(List.length a):Int) then (↑(List.length b):Int) else (↑(List.length a):Int) then (↑(List.length d):Int) else if (↑(List.length c):Int) > if (↑(List.length b):Int) > (↑(List.length a):Int) then (↑(List.length b):Int) else (↑(List.length a):Int) then (↑(List.length c):Int) else if (↑(List.length b):Int) > (↑(List.length a):Int) then (↑(List.length b):Int) else (↑(List.length a):Int) then (↑(List.length g):Int) else if (↑(List.length f):Int) > if (↑(List.length e):Int) > if (↑(List.length d):Int) > if (↑(List.length c):Int) > if (↑(List.length b):Int) > (↑(List.length a):Int) then (↑(List.length b):Int) else (↑(List.length a):Int) then (↑(List.length c):Int) else if (↑(List.length b):Int) > (↑(List.length a):Int) then (↑(List.length b):Int) else (↑(List.length a):Int) then (↑(List.length d):Int) else if (↑(List.length c):Int) > if (↑(List.length b):Int) > (↑(List.length a):Int) then (↑(List.length b):Int) else (↑(List.length a):Int) then (↑(List.length c):Int) else if (↑(List.length b):Int) > (↑(List.length a):Int) then (↑(List.length b):Int) else (↑(List.length a):Int) then (↑(List.length e):Int) else if (↑(List.length d):Int) > if (↑(List.length c):Int) > if (↑(List.length b):Int) > (↑(List.length a):Int) then (↑(List.length b):Int) else (↑(List.length a):Int) then (↑(List.length c):Int) else if (↑(List.length b):Int) > (↑(List.length a):Int) then (↑(List.length b):Int) else (↑(List.length a):Int) then (↑(List.length d):Int) else if (↑(List.length c):Int) > if (↑(List.length b):Int) > (↑(List.length a):Int) then (↑(List.length b):Int) else (↑(List.length a):Int) then (↑(List.length c):Int) else if (↑(List.length b):Int) > (↑(List.length a):Int) then (↑(List.length b):Int) else (↑(List.length a):Int) then (↑(List.length f):Int) else if (↑(List.length e):Int) > if (↑(List.length d):Int) > if (↑(List.length c):Int) > if (↑(List.length b):Int) > (↑(List.length a):Int) then (↑(List.length b):Int) else (↑(List.length a):Int) then (↑(List.length c):Int) else if (↑(List.length b):Int) > (↑(List.length a):Int) then (↑(List.length b):Int) else (↑(List.length a):Int) then (↑(List.length d):Int) else if (↑(List.length c):Int) > if (↑(List.length b):Int) > (↑(List.length a):Int) then (↑(List.length b):Int) else (↑(List.length a):Int) then (↑(List.length c):Int) else if (↑(List.length b):Int) > (↑(List.length a):Int) then (↑(List.length b):Int) else (↑(List.length a):Int) then (↑(List.length e):Int) else if (↑(List.length d):Int) > if (↑(List.length c):Int) > if (↑(List.length b):Int) > (↑(List.length a):Int) then (↑(List.length b):Int) else (↑(List.length a):Int) then (↑(List.length c):Int) else if (↑(List.length b):Int) > (↑(List.length a):Int) then (↑(List.length b):Int) else (↑(List.length a):Int) then (↑(List.length d):Int) else if (↑(List.length c):Int) > if (↑(List.length b):Int) > (↑(List.length a):Int) then (↑(List.length b):Int) else (↑(List.length a):Int) then (↑(List.length c):Int) else if (↑(List.length b):Int) > (↑(List.length a):Int) then (↑(List.length b):Int) else (↑(List.length a):Int)) then some (AV.bool true) else (R1 [.agg (.strs [a,b,c,d,e,f,g]) 7]).bind fun t=>(R2 [.str a]).bind fun t_1=>bif decide (9+(f2a t_1).length <= 9223372036854775807) then (R2 [.str b]).bind fun t_2=>bif decide (List.length ([(79:UInt8),80,65,81,85,69,118,49,45]++f2a t_1)+(f2a t_2).length <= 9223372036854775807) then bif decide (List.length ([(79:UInt8),80,65,81,85,69,118,49,45]++f2a t_1++f2a t_2)+List.length c <= 9223372036854775807) then (R2 [.str d]).bind fun t_3=>bif decide (List.length ([(79:UInt8),80,65,81,85,69,118,49,45]++f2a t_1++f2a t_2++c)+(f2a t_3).length <= 9223372036854775807) then bif decide (List.length ([(79:UInt8),80,65,81,85,69,118,49,45]++f2a t_1++f2a t_2++c++f2a t_3)+List.length e <= 9223372036854775807) then bif decide (List.length ([(79:UInt8),80,65,81,85,69,118,49,45]++f2a t_1++f2a t_2++c++f2a t_3++e)+List.length f <= 9223372036854775807) then bif decide (List.length ([(79:UInt8),80,65,81,85,69,118,49,45]++f2a t_1++f2a t_2++c++f2a t_3++e++f)+List.length g <= 9223372036854775807) then (R1 [.agg (.strs [a,b,c,List.map b8 (List.replicate 65536 (0:Int)),e,f,g]) 7]).bind fun t_4=>bif decide (f1b t=(0:Int)) && decide (f1a t=[(79:UInt8),80,65,81,85,69,118,49,45]++f2a t_1++f2a t_2++c++f2a t_3++e++f++g) && decide (f1b t_4=(5:Int)) then (R3 [.str s,.str (f1a t)]).bind fun t_5=>(R4 [.str s,.str (f1a t)]).bind fun t=>some (AV.bool (decide (f3a t_5=f4a t) && (decide (f3b t_5=f4b t) && (decide (f3c t_5=f4c t) && true)))) else some (AV.bool false) else none else none else none else none else none else none else none:=by kernel_rfl
end
set_option maxRecDepth 8000
def mxI (x y:Int):Int:=if y > x then y else x
theorem mxI_le {x y n:Int}:mxI x y <= n ↔ x <= n /\ y <= n:=by
 unfold mxI
 split <;> omega
theorem condT {b:Bool} {r:AV} {X:Option AV} (h:b=false->X=some r):cond b (some r) X=some r:=by
 cases b
 ·exact h rfl
 ·rfl
abbrev gI_AkG:Cg:=g_AkG (List UInt8) rTwoB (fun t=>t)
theorem gok_AkG:CfOk prog gI_AkG.c:=⟨gam_cons ok_Two <| gam_nil,fun _ _ h=>by cases h⟩
theorem ok_Cnt13:CallOk prog nF19 sCnt13:=by
 refine afunc_okE (g:=gI_AkG) (fu:=fun _=>0) mixed gok_AkG hF19 (by kernel_rfl) ?_
 intro args t ht
 unfold sCnt13 at ht
 simp only at ht
 split at ht
 ·rename_i s
  obtain ⟨h1,h2⟩:=ctrueS ht
  subst h2
  rw [Nat.ble_eq] at h1
  refine (AkG_ev ..).trans ?_
  refine bstep (run_Two (n:=s.length) (by omega)) ?_
  refine cstep (decide_eq_true ?_) rfl
  rw [pre2_len]; omega
 ·cases ht
theorem run_Cnt13 {s:Str} (h:s.length <= 100000):rCnt13 [.str s]=some (pre2 s.length++s):=by
 show cond (Nat.ble s.length 100000) (some (pre2 s.length++s)) none=_
 rw [ble_of h]; rfl
theorem cnt_len1 (s:Str):(cntL [s]).length=2+s.length:=by
 show (pre2 s.length++s++[]).length=_
 rw [List.append_nil,List.length_append,pre2_len]
theorem cnt_len2 (s t:Str):(cntL [s,t]).length=4+s.length+t.length:=by
 show (pre2 s.length++s++cntL [t]).length=_
 rw [List.length_append,List.length_append,pre2_len,cnt_len1]; omega
theorem max3 {a b d:Nat}:decide ((65535:Int) < if (d:Int) > if (b:Int) > (a:Int) then (b:Int) else (a:Int) then (d:Int) else if (b:Int) > (a:Int) then (b:Int) else (a:Int))=!(Nat.ble a 65535 && Nat.ble b 65535 && Nat.ble d 65535):=by
 have k:(65535:Int) < mxI (mxI a b) d ↔ ¬ (a <= 65535 /\ b <= 65535 /\ d <= 65535):=by
  rw [<-Int.not_le,mxI_le,mxI_le]; omega
 have e:(Nat.ble a 65535 && Nat.ble b 65535 && Nat.ble d 65535)=decide (a <= 65535 /\ b <= 65535 /\ d <= 65535):=by
  rw [Bool.eq_iff_iff]
  simp only [Bool.and_eq_true,Nat.ble_eq,decide_eq_true_eq,and_assoc]
 rw [e]
 show decide ((65535:Int) < mxI (mxI a b) d)=_
 by_cases h:a <= 65535 /\ b <= 65535 /\ d <= 65535
 ·rw [decide_eq_false (fun q=>k.1 q h),decide_eq_true h]; rfl
 ·rw [decide_eq_true (k.2 h),decide_eq_false h]; rfl
abbrev gI_AkN:Cg:=g_AkN (List UInt8) rCounted (fun t=>t)
theorem gok_AkN:CfOk prog gI_AkN.c:=⟨gam_cons ok_Counted <| gam_nil,fun _ _ h=>by cases h⟩
theorem ok_Pre:CallOk prog nF18 sPre:=by
 refine afunc_okE (g:=gI_AkN) (fu:=fun _=>0) mixed gok_AkN hF18 (by kernel_rfl) ?_
 intro args t ht
 unfold sPre at ht
 simp only at ht
 split at ht
 ·rename_i a b c d e f g
  obtain ⟨h1,h2⟩:=ctrueS ht
  subst h2
  simp only [okPre,okP2,Bool.and_eq_true,Nat.ble_eq] at h1
  refine (AkN_ev ..).trans ?_
  rw [max3]
  unfold preK
  cases q:(Nat.ble a.length 65535 && Nat.ble b.length 65535 && Nat.ble d.length 65535)
  ·rfl
  ·have l1:=cnt_len2 a b
   have l2:=cnt_len1 d
   have m1:=run_Counted (ss:=[a,b]) (n:=2) rfl (by simp only [List.length_cons,List.length_nil]; omega) (by rw [l1]; omega)
   have m2:=run_Counted (ss:=[d]) (n:=1) rfl (by simp only [List.length_cons,List.length_nil]; omega) (by rw [l2]; omega)
   generalize hA:cntL [a,b]=A at *
   generalize hD:cntL [d]=D at *
   show (rCounted [.s (.dat (.strs [a,b]) 2 1)]).bind _=some (AV.tup [CV.s (SV.pl (Pl.str (preT a b c d e f g))),CV.s (SV.pl (Pl.int i64 0))])
   refine bstep m1 ?_
   have l0:opv.length=9:=rfl
   refine cstep (decide_eq_true (by omega)) ?_
   refine cstep (decide_eq_true (by show (opv++A).length+_ <= _; simp only [List.length_append]; omega)) ?_
   refine bstep m2 ?_
   refine cstep (decide_eq_true (by show (opv++A++c).length+_ <= _; simp only [List.length_append]; omega)) ?_
   refine cstep (decide_eq_true (by show (opv++A++c++D).length+_ <= _; simp only [List.length_append]; omega)) ?_
   refine cstep (decide_eq_true (by show (opv++A++c++D++e).length+_ <= _; simp only [List.length_append]; omega)) ?_
   refine cstep (decide_eq_true (by show (opv++A++c++D++e++f).length+_ <= _; simp only [List.length_append]; omega)) ?_
   unfold preT
   rw [hA,hD]; rfl
 ·cases ht
theorem run_Pre {a b c d e f g:Str} (h1:a.length <= 100000) (h2:b.length <= 100000) (h3:c.length <= 100000) (h4:d.length <= 100000) (h5:e.length <= 100000) (h6:f.length <= 100000) (h7:g.length <= 100000) :
  rPre [.agg (.strs [a,b,c,d,e,f,g]) 7]=some (preK a b c d e f g):=by
 show cond (okPre c e f g && okP2 a b d) (some (preK a b c d e f g)) none=_
 have:(okPre c e f g && okP2 a b d)=true:=by
  simp only [okPre,okP2,ble_of h1,ble_of h2,ble_of h3,ble_of h4,ble_of h5,ble_of h6,ble_of h7,Bool.and_self]
 rw [this]; rfl
theorem labelA_S {k l c:Str} (hl:l.length <= 248) (hc:c.length <= 255):(labelA k l c 64).1=labelS k l c 64:=by
 unfold labelA
 rw [if_neg (by omega),if_neg (by omega),if_neg (by omega)]; rfl
theorem run_RefL {k l c:Str} (hk:k.length <= 1000) (hl:l.length <= 248) (hc:c.length <= 255):rRefLabel [.str k,.str l,.str c,.int .i64 64]=some (labelA k l c 64).1:=by
 rw [labelA_S hl hc]
 exact run_RefLabel (okLen_of' (by omega)) hl hc (by decide) (by decide)
abbrev gI_AkR:Cg:=g_AkR (List UInt8) rRefHmac (fun t=>t) (List UInt8) rRefH (fun t=>t) (List UInt8) rRefLabel (fun t=>t)
theorem gok_AkR:CfOk prog gI_AkR.c:=⟨gam_cons ok_RefHmac <| gam_cons ok_RefH <| gam_cons ok_RefLabel <| gam_nil,fun _ _ h=>by cases h⟩
theorem ok_RefDer:CallOk prog nF21 sRefDer:=by
 refine afunc_okE (g:=gI_AkR) (fu:=fun _=>0) mixed gok_AkR hF21 (by kernel_rfl) ?_
 intro args t ht
 unfold sRefDer sDerive at ht
 simp only at ht
 split at ht
 ·rename_i s p
  obtain ⟨h1,h2⟩:=ctrueS ht
  subst h2
  rw [Bool.and_eq_true,Nat.ble_eq,Nat.ble_eq] at h1
  obtain ⟨hs,hp⟩:=h1
  have j1:rRefHmac [.str [],.str s]=some (drPrk s):=run_RefHmac rfl (okLen_of' (by omega))
  have j2:rRefH [.str p]=some (hS p):=run_RefH (by omega)
  have l0:(drPrk s).length=64:=hmacS_len _ _
  have lp:(hS p).length=64:=hS_len _
  have j3:rRefLabel [.str (drPrk s),.str [72,97,110,100,115,104,97,107,101,83,101,99,114,101,116],.str (hS p),.int .i64 64]=some (drHand s p):=run_RefL (by omega) (by decide) (by omega)
  have lh:(drHand s p).length=64:=labelA_len (by decide) (by omega)
  have j4:=run_RefL (k:=drHand s p) (l:=[83,101,114,118,101,114,77,65,67]) (c:=[]) (by omega) (by decide) (by decide)
  have l4:(labelA (drHand s p) [83,101,114,118,101,114,77,65,67] [] 64).1.length=64:=labelA_len (by decide) (by decide)
  have j5:rRefHmac [.str (labelA (drHand s p) [83,101,114,118,101,114,77,65,67] [] 64).1,.str (hS p)]=some (drSrv s p):=run_RefHmac (okLen_of' (by omega)) (okLen_of' (by omega))
  have l5:(drSrv s p).length=64:=hmacS_len _ _
  have j6:=run_RefL (k:=drHand s p) (l:=[67,108,105,101,110,116,77,65,67]) (c:=[]) (by omega) (by decide) (by decide)
  have l6:(labelA (drHand s p) [67,108,105,101,110,116,77,65,67] [] 64).1.length=64:=labelA_len (by decide) (by decide)
  have j7:rRefH [.str (p++drSrv s p)]=some (hS (p++drSrv s p)):=run_RefH (by rw [List.length_append]; omega)
  have l7:(hS (p++drSrv s p)).length=64:=hS_len _
  have j8:rRefHmac [.str (labelA (drHand s p) [67,108,105,101,110,116,77,65,67] [] 64).1,.str (hS (p++drSrv s p))]=some (drCli s p):=run_RefHmac (okLen_of' (by omega)) (okLen_of' (by omega))
  have j9:rRefLabel [.str (drPrk s),.str [83,101,115,115,105,111,110,75,101,121],.str (hS p),.int .i64 64]=some (drSes s p):=run_RefL (by omega) (by decide) (by omega)
  refine (AkR_ev ..).trans ?_
  show _=some (AV.agg (.strs [drSes s p,drSrv s p,drCli s p]) 3)
  generalize drSes s p=v9 at *
  generalize drCli s p=v8 at *
  generalize hS (p++drSrv s p)=v7 at *
  generalize drSrv s p=v5 at *
  generalize (labelA (drHand s p) [67,108,105,101,110,116,77,65,67] [] 64).1=v6 at *
  generalize (labelA (drHand s p) [83,101,114,118,101,114,77,65,67] [] 64).1=v4 at *
  generalize drHand s p=v3 at *
  generalize hS p=v2 at *
  generalize drPrk s=v1 at *
  refine bstep j1 ?_
  refine bstep j2 ?_
  refine bstep j3 ?_
  refine bstep j4 ?_
  refine bstep j5 ?_
  refine bstep j6 ?_
  refine cstep (decide_eq_true (by omega)) ?_
  refine bstep j7 ?_
  refine bstep j8 ?_
  refine bstep j9 ?_
  rfl
 ·cases ht
def sLAT:Summ where
 T:=Unit
 run:=fun
  | [.c (.s (.pl (.agg (.strs [a,b,c,d,e,f,g]) 7))),.c (.s (.pl (.str s)))]=>some ()
  | _=>none
 enc:=fun _=>.bool true
theorem preT_eq (a b c d e f g:Str):preT a b c d e f g=opv++(pre2 a.length++a)++(pre2 b.length++b)++c++(pre2 d.length++d)++e++f++g:=by
 simp only [preT,cntL,List.append_nil,List.append_assoc]
theorem preT_len (a b c d e f g:Str):(preT a b c d e f g).length=15+a.length+b.length+c.length+d.length+e.length+f.length+g.length:=by
 rw [preT_eq]
 simp only [List.length_append,pre2_len,show opv.length=9 from rfl]; omega
abbrev gI_AkV:Cg:=g_AkV (PUnit) rTrue (Str × Int) rPre (fun t=>t.fst) (fun t=>t.snd) (List UInt8) rCnt13 (fun t=>t) (Str × Str × Str) rDerive (fun t=>t.fst) (fun t=>t.snd.fst) (fun t=>t.snd.snd) (Str × Str × Str) rRefDer (fun t=>t.fst) (fun t=>t.snd.fst) (fun t=>t.snd.snd)
theorem gok_AkV:CfOk prog gI_AkV.c:=⟨gam_cons ok_awake13 <| gam_cons ok_Pre <| gam_cons ok_Cnt13 <| gam_cons ok_Derive <| gam_cons ok_RefDer <| gam_nil,fun _ _ h=>by cases h⟩
theorem ok_LAT:CallOk prog n_opalinelaw13_AkeTalks sLAT:=by
 refine afunc_okE (g:=gI_AkV) (fu:=fun _=>0) mixed gok_AkV h_opalinelaw13_AkeTalks (by kernel_rfl) ?_
 intro args t ht
 unfold sLAT at ht
 simp only at ht
 split at ht
 ·rename_i a b c d e f g s
  refine (AkV_ev ..).trans ?_
  show _=some (AV.bool true)
  refine bstep (show rTrue []=some () from rfl) ?_
  refine condT fun hb=>?_
  have hb:¬ ((400:Int) < mxI (mxI (mxI (mxI (mxI (mxI (mxI a.length b.length) c.length) d.length) e.length) f.length) g.length) s.length):=of_decide_eq_false hb
  rw [Int.not_lt] at hb
  simp only [mxI_le] at hb
  obtain ⟨⟨⟨⟨⟨⟨⟨ha,hb⟩,hc⟩,hd⟩,he⟩,hf⟩,hg⟩,hs⟩:=hb
  generalize hL:List.map b8 (List.replicate (65536:Nat) (0:Int))=L
  have lL:L.length=65536:=by rw [<-hL,List.length_map,List.length_replicate]
  clear hL
  have p1:=run_Pre (a:=a) (b:=b) (c:=c) (d:=d) (e:=e) (f:=f) (g:=g) (by omega) (by omega) (by omega) (by omega) (by omega) (by omega) (by omega)
  have p2:=run_Pre (a:=a) (b:=b) (c:=c) (d:=L) (e:=e) (f:=f) (g:=g) (by omega) (by omega) (by omega) (by omega) (by omega) (by omega) (by omega)
  have q1:preK a b c d e f g=(preT a b c d e f g,0):=by
   unfold preK
   rw [ble_of (show a.length <= 65535 by omega),ble_of (show b.length <= 65535 by omega),ble_of (show d.length <= 65535 by omega)]; rfl
  have q2:preK a b c L e f g=([],5):=by
   unfold preK
   rw [show Nat.ble L.length 65535=false by rw [lL]; rfl,Bool.and_false]; rfl
  rw [q1] at p1
  rw [q2] at p2
  have ka:=run_Cnt13 (s:=a) (by omega)
  have kb:=run_Cnt13 (s:=b) (by omega)
  have kd:=run_Cnt13 (s:=d) (by omega)
  have hpe:=preT_eq a b c d e f g
  have hpl:=preT_len a b c d e f g
  have d1:=run_Derive (s:=s) (p:=preT a b c d e f g) (by omega) (by omega)
  have d2:rRefDer [.str s,.str (preT a b c d e f g)]=_:=d1
  have wa:(pre2 a.length++a).length=2+a.length:=by rw [List.length_append,pre2_len]
  have wb:(pre2 b.length++b).length=2+b.length:=by rw [List.length_append,pre2_len]
  have wd:(pre2 d.length++d).length=2+d.length:=by rw [List.length_append,pre2_len]
  generalize preT a b c d e f g=Q at *
  generalize drSes s Q=v1 at *
  generalize drSrv s Q=v2 at *
  generalize drCli s Q=v3 at *
  generalize pre2 a.length++a=A at *
  generalize pre2 b.length++b=B at *
  generalize pre2 d.length++d=D at *
  have l0:opv.length=9:=rfl
  refine bstep p1 ?_
  refine bstep ka ?_
  refine cstep (decide_eq_true (by omega)) ?_
  refine bstep kb ?_
  refine cstep (decide_eq_true (by show (opv++A).length+_ <= _; simp only [List.length_append]; omega)) ?_
  refine cstep (decide_eq_true (by show (opv++A++B).length+_ <= _; simp only [List.length_append]; omega)) ?_
  refine bstep kd ?_
  refine cstep (decide_eq_true (by show (opv++A++B++c).length+_ <= _; simp only [List.length_append]; omega)) ?_
  refine cstep (decide_eq_true (by show (opv++A++B++c++D).length+_ <= _; simp only [List.length_append]; omega)) ?_
  refine cstep (decide_eq_true (by show (opv++A++B++c++D++e).length+_ <= _; simp only [List.length_append]; omega)) ?_
  refine cstep (decide_eq_true (by show (opv++A++B++c++D++e++f).length+_ <= _; simp only [List.length_append]; omega)) ?_
  refine bstep p2 ?_
  refine cstep ?_ ?_
  ·show (decide ((0:Int)=0) && decide (Q=opv++A++B++c++D++e++f++g) && decide ((5:Int)=5))=true
   rw [decide_eq_true hpe]; rfl
  refine bstep d1 ?_
  refine bstep d2 ?_
  show some (AV.bool (decide (v1=v1) && (decide (v2=v2) && (decide (v3=v3) && true))))=_
  rw [decide_eq_true rfl,decide_eq_true rfl,decide_eq_true rfl]; rfl
 ·cases ht
end
end Go.Eng
