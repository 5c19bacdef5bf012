import Derived.Test.YteipjabipehbpaaGreatInLimb
import Derived.Test.YteipjabipehbpaaGreatZH1
namespace Go.Eng
open Go.IntKind (u64 i64 u8)
noncomputable section
open Go Go.Proofs
set_option linter.all false
def xorL (a b:Str):Str:=List.zipWith (fun x y=>b8 ((x.toNat ^^^ y.toNat:Nat):Int)) a b
def by1 (n:Nat):Str:=[b8 ((n%256:Nat):Int)]
def markS (d:Str):Str × Int:=if 255 < d.length then ([],5) else if d=[] then ([],3) else (d++by1 d.length,0)
def blocksS (f:Nat->Str) (k:Nat):Str:=((List.range k).map f).flatten
def up64 (n:Nat):Nat:=(n+63) / 64
def xFirst (dst:Str) (n:Nat) (m:Str):Str:=hS (List.replicate 128 0++(m++(by1 (n / 256)++(by1 n++([0]++(dst++by1 dst.length))))))
def xB (dst:Str) (n:Nat) (m:Str):Nat->Str
 | 0=>hS (xFirst dst n m++([1]++(dst++by1 dst.length)))
 | i+1=>hS (xorL (xFirst dst n m) (xB dst n m i)++(by1 (i+2)++(dst++by1 dst.length)))
def xmdS (dst:Str) (n:Nat) (m:Str):Str:=(blocksS (xB dst n m) (up64 n)).take n
def xmdA (dst:Str) (n:Int) (m:Str):Str × Int:=if n < 1 ∨ 16320 < n then ([],2) else if (markS dst).2 ≠ 0 then ([],(markS dst).2) else (xmdS dst n.toNat m,0)
def sXor:Summ where
 T:=Str
 run:=fun
  | [.c (.s (.pl (.str a))),.c (.s (.pl (.str b)))]=>cond (okLen a && okLen b) (some (xorL a b)) none
  | _=>none
 enc:=fun t=>.str t
def rXor:List AV->Option Str:=sXor.run
def sMark:Summ where
 T:=Str × Int
 run:=fun
  | [.c (.s (.pl (.str a)))]=>cond (okLen a) (some (markS a)) none
  | _=>none
 enc:=fun t=>.tup [.s (.pl (.str t.1)),.s (.pl (.int .i64 t.2))]
def rMark:List AV->Option (Str × Int):=sMark.run
def sOneB:Summ where
 T:=Str
 run:=fun
  | [.c (.s (.pl (.int .u8 n)))]=>some [b8 n]
  | _=>none
 enc:=fun t=>.str t
def rOneB:List AV->Option Str:=sOneB.run
def sXsum:Summ where
 T:=Str
 run:=fun
  | [.c (.s (.dat (.strs ss) n 1))]=>cond (okSum ss n) (some (hS (Lib.join ss []))) none
  | _=>none
 enc:=fun t=>.str t
def rXsum:List AV->Option Str:=sXsum.run
def sXmd:Summ where
 T:=Str × Int
 run:=fun
  | [.c (.s (.pl (.str d))),.c (.s (.pl (.int .i64 k))),.c (.s (.dat (.strs ss) n 1))]=>cond (okLen d && okJ ss n) (some (xmdA d k (Lib.join ss []))) none
  | _=>none
 enc:=fun t=>.tup [.s (.pl (.str t.1)),.s (.pl (.int .i64 t.2))]
def rXmd:List AV->Option (Str × Int):=sXmd.run
def sRefXmd:Summ where
 T:=Str
 run:=fun
  | [.c (.s (.pl (.str d))),.c (.s (.pl (.int .i64 k))),.c (.s (.pl (.str m)))]=>cond (okLen m && decide (d.length <= 255 /\ 1 <= k /\ k <= 16320)) (some (xmdS d k.toNat m)) none
  | _=>none
 enc:=fun t=>.str t
def rRefXmd:List AV->Option Str:=sRefXmd.run
def eB (prk info:Str):Nat->Str
 | 0=>hmacS prk (info++by1 1)
 | i+1=>hmacS prk (eB prk info i++(info++by1 (i+2)))
def g_XmXo:Cg:=⟨⟨gam [],[],noE⟩,[(4,[0,1,5,14,15],[5])]⟩
def XmXo_s1 (s0 s1:Str) (n5:Nat) (v14 v15:Int) (m_0:Nat) (x_0:List Int):St:={ tm:=[(0,.str s0),(1,.str s1),(5,.s (.own 0 n5 1)),(14,.int .i64 v14),(15,.int .i64 v15)],hp:=[(0,{ ty:=5,n:=m_0,row:=Row.t (.ints .u8 x_0) })],nx:=1,sz:=31 }
def XmXo_b1:Code:=bodyL (codeAt [1,1,0,1,2] (codeF fF145))
def XmXo_k1 (fu:Nat):=kAt prog g_XmXo fu [1,1,0,1,2] (codeF fF145) (kFin prog fF145)
abbrev XmXo_L1 (fu:Nat) (s0 s1:Str) (n5:Nat) (v14 v15:Int) (m_0:Nat) (x_0:List Int):=lpA prog g_XmXo fu XmXo_b1 (XmXo_k1 fu ) fu (some (XmXo_s1 s0 s1 n5 v14 v15 m_0 x_0))
theorem XmXo_ev (fu:Nat) (a b:Str):afunc prog fF145 g_XmXo fu [.str a,.str b]=bif decide (((0:Int) <= if (↑(List.length b):Int) < (↑(List.length a):Int) then (↑(List.length b):Int) else (↑(List.length a):Int)) /\ ((if (↑(List.length b):Int) < (↑(List.length a):Int) then (↑(List.length b):Int) else (↑(List.length a):Int)) <= if (↑(List.length b):Int) < (↑(List.length a):Int) then (↑(List.length b):Int) else (↑(List.length a):Int)) /\ (if (↑(List.length b):Int) < (↑(List.length a):Int) then (↑(List.length b):Int) else (↑(List.length a):Int)) <= (1099511627776:Int)) then XmXo_L1 fu a b (if (↑(List.length b):Int) < (↑(List.length a):Int) then (↑(List.length b):Int) else (↑(List.length a):Int)).toNat (↑(if (↑(List.length b):Int) < (↑(List.length a):Int) then (↑(List.length b):Int) else (↑(List.length a):Int)).toNat:Int) (0:Int) ((if (↑(List.length b):Int) < (↑(List.length a):Int) then (↑(List.length b):Int) else (↑(List.length a):Int)).toNat*1) (List.replicate (if (↑(List.length b):Int) < (↑(List.length a):Int) then (↑(List.length b):Int) else (↑(List.length a):Int)).toNat (0:Int)) else none:=by kernel_rfl
def XmXo_o1e0 (n5 m_0:Nat) (x_0:List Int):St:={ tm:=[(5,.s (.own 0 n5 1))],hp:=[(0,{ ty:=5,n:=m_0,row:=Row.t (.ints .u8 x_0) })],nx:=1,sz:=31 }
theorem XmXo_r1 {β:Type} (fu:Nat) (G:Option St->Option β) (H:Ex->Option St->Option β) (s0 s1:Str) (n5:Nat) (v14 v15:Int) (m_0:Nat) (x_0:List Int):lpR prog g_XmXo fu XmXo_b1 G H (XmXo_s1 s0 s1 n5 v14 v15 m_0 x_0)=bif decide (v15 < v14) then bif decide ((0:Int) <= v15 /\ v15 < (↑(List.length s0):Int)) then bif decide ((0:Int) <= v15 /\ v15 < (↑(List.length s1):Int)) then bif decide ((0:Int) <= v15 /\ v15 < (↑n5:Int)) then G (some (XmXo_s1 s0 s1 n5 v14 (i64.wrap (v15+(1:Int))) m_0 (x_0.set v15.toNat (bXor .u8 (↑(List.getD s0 v15.toNat (0:UInt8)).toNat:Int) (↑(List.getD s1 v15.toNat (0:UInt8)).toNat:Int))))) else none else none else none else H (Ex.exit 0) (some (XmXo_o1e0 n5 m_0 x_0)):=by kernel_rfl
theorem XmXo_c1e0 (fu:Nat) (n5 m_0:Nat) (x_0:List Int):XmXo_k1 fu  (Ex.exit 0) (XmXo_o1e0 n5 m_0 x_0)=some (AV.str (List.map b8 x_0)):=by kernel_rfl
def g_XmMa:Cg:=⟨⟨gam [],[],noE⟩,[]⟩
theorem XmMa_ev (fu:Nat) (a:Str):afunc prog fF142 g_XmMa fu [.str a]=bif decide ((255:Int) < (↑(List.length a):Int)) then some (AV.tup [.s (.pl (.str [])),.s (.pl (.int .i64 (5:Int)))]) else bif decide (a=[]) then some (AV.tup [.s (.pl (.str [])),.s (.pl (.int .i64 (3:Int)))]) else bif decide (List.length a+1 <= 9223372036854775807) then some (AV.tup [.s (.pl (.str (a++List.map b8 [u8.wrap (↑(List.length a):Int)]))),.s (.pl (.int .i64 (0:Int)))]) else none:=by kernel_rfl
def g_XmOn:Cg:=⟨⟨gam [],[],noE⟩,[]⟩
theorem XmOn_ev (fu:Nat) (n:Int):afunc prog fF143 g_XmOn fu [.int .u8 n]=some (AV.str (List.map b8 [n])):=by kernel_rfl
section
variable (T0:Type) (R0:List AV->Option T0) (f0a:T0->List Int)
def g_XmSu:Cg:=⟨⟨gam [(nF103,⟨R0,fun t=>AV.agg (.ints .u8 (f0a t)) 64⟩)],[],noE⟩,[]⟩
theorem XmSu_ev (fu:Nat) (ss:List Str) (n:Nat):afunc prog fF144 (g_XmSu T0 R0 f0a) fu [.s (.dat (.strs ss) n 1)]=(R0 [.s (.dat (.strs ss) n 1)]).bind fun t=>some (AV.str (List.map b8 (List.take 64 (List.drop 0 (f0a t))))):=by kernel_rfl
end
section
variable (T0:Type) (R0:List AV->Option T0) (f0a:T0->Str) (f0b:T0->Int) (T1:Type) (R1:List AV->Option T1) (f1a:T1->List UInt8) (T2:Type) (R2:List AV->Option T2) (f2a:T2->List UInt8) (T3:Type) (R3:List AV->Option T3) (f3a:T3->List UInt8) (T4:Type) (R4:List AV->Option T4) (f4a:T4->List UInt8) (T5:Type) (R5:List AV->Option T5) (f5a:T5->List UInt8)
def g_XmEx:Cg:=⟨⟨gam [(nF142,⟨R0,fun t=>AV.tup [.s (.pl (.str (f0a t))),.s (.pl (.int .i64 (f0b t)))]⟩),(nF143,⟨R1,fun t=>AV.str (f1a t)⟩),(nF132,⟨R2,fun t=>AV.str (f2a t)⟩),(nF131,⟨R3,fun t=>AV.str (f3a t)⟩),(nF144,⟨R4,fun t=>AV.str (f4a t)⟩),(nF145,⟨R5,fun t=>AV.str (f5a t)⟩)],[],noE⟩,[(12,[1,8,10,11,12,13,14],[1,13])]⟩
def XmEx_s1 (v1:Int) (s8:Str) (s11 s12 s13:List UInt8) (v14:Int):St:={ tm:=[(1,.int .i64 v1),(8,.str s8),(10,.s (.clo 143 [] [])),(11,.str s11),(12,.str s12),(13,.str s13),(14,.int .u8 v14)],hp:=[],nx:=0,sz:=74 }
def XmEx_b1:Code:=bodyL (codeAt [1,1,1,1,1,1,1,1,0,1,2] (codeF fF115))
def XmEx_k1 (fu:Nat):=kAt prog (g_XmEx T0 R0 f0a f0b T1 R1 f1a T2 R2 f2a T3 R3 f3a T4 R4 f4a T5 R5 f5a) fu [1,1,1,1,1,1,1,1,0,1,2] (codeF fF115) (kFin prog fF115)
abbrev XmEx_L1 (fu:Nat) (v1:Int) (s8:Str) (s11 s12 s13:List UInt8) (v14:Int):=lpA prog (g_XmEx T0 R0 f0a f0b T1 R1 f1a T2 R2 f2a T3 R3 f3a T4 R4 f4a T5 R5 f5a) fu XmEx_b1 (XmEx_k1 T0 R0 f0a f0b T1 R1 f1a T2 R2 f2a T3 R3 f3a T4 R4 f4a T5 R5 f5a fu ) fu (some (XmEx_s1 v1 s8 s11 s12 s13 v14))
theorem XmEx_ev (fu:Nat) (d:Str) (k:Int) (ss:List Str) (n:Nat):afunc prog fF115 (g_XmEx T0 R0 f0a f0b T1 R1 f1a T2 R2 f2a T3 R3 f3a T4 R4 f4a T5 R5 f5a) fu [.str d,.int .i64 k,.s (.dat (.strs ss) n 1)]=bif decide (k < (1:Int)) || decide ((16320:Int) < k) then some (AV.tup [.s (.pl (.str [])),.s (.pl (.int .i64 (2:Int)))]) else (R0 [.str d]).bind fun t=>bif !decide (f0b t=(0:Int)) then some (AV.tup [.s (.pl (.str [])),.s (.pl (.int .i64 (f0b t)))]) else (R2 [.str [(0:UInt8)],.int .i64 (128:Int)]).bind fun t_1=>(R3 [.s (.dat (.strs ss) n 1),.str []]).bind fun t_2=>(R1 [.int .u8 (u8.wrap (bShr .i64 k (8:Int)))]).bind fun t_3=>(R1 [.int .u8 (u8.wrap k)]).bind fun t_4=>(R1 [.int .u8 (0:Int)]).bind fun t_5=>(R4 [.s (.dat (.strs ([f2a t_1]++([f3a t_2]++([f1a t_3]++([f1a t_4]++([f1a t_5]++[f0a t])))))) 6 1)]).bind fun t_6=>(R1 [.int .u8 (1:Int)]).bind fun t_7=>(R4 [.s (.dat (.strs ([f4a t_6]++([f1a t_7]++[f0a t]))) 3 1)]).bind fun t_8=>XmEx_L1 T0 R0 f0a f0b T1 R1 f1a T2 R2 f2a T3 R3 f3a T4 R4 f4a T5 R5 f5a fu k (f0a t) (f4a t_6) (f4a t_8) (f4a t_8) (2:Int):=by kernel_rfl
def XmEx_o1e0 (v1:Int) (s13:List UInt8):St:={ tm:=[(1,.int .i64 v1),(13,.str s13)],hp:=[],nx:=0,sz:=74 }
theorem XmEx_r1 {β:Type} (fu:Nat) (G:Option St->Option β) (H:Ex->Option St->Option β) (v1:Int) (s8:Str) (s11 s12 s13:List UInt8) (v14:Int):lpR prog (g_XmEx T0 R0 f0a f0b T1 R1 f1a T2 R2 f2a T3 R3 f3a T4 R4 f4a T5 R5 f5a) fu XmEx_b1 G H (XmEx_s1 v1 s8 s11 s12 s13 v14)=bif decide ((↑s13.length:Int) < v1) then (R5 [.str s11,.str s12]).bind fun t=>(R1 [.int .u8 v14]).bind fun t_1=>(R4 [.s (.dat (.strs ([f5a t]++([f1a t_1]++[s8]))) 3 1)]).bind fun t=>bif decide (s13.length+(f4a t).length <= 9223372036854775807) then G (some (XmEx_s1 v1 s8 s11 (f4a t) (s13++f4a t) (u8.wrap (v14+(1:Int))))) else none else H (Ex.exit 0) (some (XmEx_o1e0 v1 s13)):=by kernel_rfl
theorem XmEx_c1e0 (fu:Nat) (v1:Int) (s13:List UInt8):XmEx_k1 T0 R0 f0a f0b T1 R1 f1a T2 R2 f2a T3 R3 f3a T4 R4 f4a T5 R5 f5a fu  (Ex.exit 0) (XmEx_o1e0 v1 s13)=bif decide ((0:Int) <= (0:Int) /\ (0:Int) <= v1 /\ v1 <= (↑s13.length:Int)) then some (AV.tup [.s (.pl (.str (sl s13 (0:Int) v1))),.s (.pl (.int .i64 (0:Int)))]) else none:=by kernel_rfl
end
section
variable (T0:Type) (R0:List AV->Option T0) (f0a:T0->List UInt8) (T1:Type) (R1:List AV->Option T1) (f1a:T1->List UInt8)
def g_XrEx:Cg:=⟨⟨gam [(nF64,⟨R0,fun t=>AV.str (f0a t)⟩),(nF70,⟨R1,fun t=>AV.str (f1a t)⟩)],[],noE⟩,[(7,[1,7,8,9,10,11],[1,10]),(11,[1,7,8,9,10,11,12,13],[1,7,8,10,11,12])]⟩
def XrEx_s1 (v1:Int) (s7:Str) (s8 s9 s10:List UInt8) (v11:Int):St:={ tm:=[(1,.int .i64 v1),(7,.str s7),(8,.str s8),(9,.str s9),(10,.str s10),(11,.int .i64 v11)],hp:=[],nx:=0,sz:=75 }
def XrEx_b1:Code:=bodyL (codeAt [1,1,1,1,1,0,1,2] (codeF fF117))
def XrEx_k1 (fu:Nat):=kAt prog (g_XrEx T0 R0 f0a T1 R1 f1a) fu [1,1,1,1,1,0,1,2] (codeF fF117) (kFin prog fF117)
abbrev XrEx_L1 (fu:Nat) (v1:Int) (s7:Str) (s8 s9 s10:List UInt8) (v11:Int):=lpA prog (g_XrEx T0 R0 f0a T1 R1 f1a) fu XrEx_b1 (XrEx_k1 T0 R0 f0a T1 R1 f1a fu ) fu (some (XrEx_s1 v1 s7 s8 s9 s10 v11))
theorem XrEx_ev (fu:Nat) (d:Str) (k:Int) (m:Str):afunc prog fF117 (g_XrEx T0 R0 f0a T1 R1 f1a) fu [.str d,.int .i64 k,.str m]=bif decide (List.length d+1 <= 9223372036854775807) then bif decide (128+List.length m <= 9223372036854775807) then (R0 [.int .i64 k]).bind fun t=>bif decide (List.length (List.map b8 (List.replicate 128 (0:Int))++m)+(f0a t).length <= 9223372036854775807) then bif decide (List.length (List.map b8 (List.replicate 128 (0:Int))++m++f0a t)+1 <= 9223372036854775807) then bif decide (List.length (List.map b8 (List.replicate 128 (0:Int))++m++f0a t++[(0:UInt8)])+List.length (d++List.map b8 [u8.wrap (↑(List.length d):Int)]) <= 9223372036854775807) then (R1 [.str (List.map b8 (List.replicate 128 (0:Int))++m++f0a t++[(0:UInt8)]++(d++List.map b8 [u8.wrap (↑(List.length d):Int)]))]).bind fun t=>bif decide ((f1a t).length+1 <= 9223372036854775807) then bif decide (List.length (f1a t++[(1:UInt8)])+List.length (d++List.map b8 [u8.wrap (↑(List.length d):Int)]) <= 9223372036854775807) then (R1 [.str (f1a t++[(1:UInt8)]++(d++List.map b8 [u8.wrap (↑(List.length d):Int)]))]).bind fun t_1=>XrEx_L1 T0 R0 f0a T1 R1 f1a fu k (d++List.map b8 [u8.wrap (↑(List.length d):Int)]) (f1a t) (f1a t_1) (f1a t_1) (2:Int) else none else none else none else none else none else none else none:=by kernel_rfl
def XrEx_s2 (v1:Int) (s7:Str) (s8 s9 s10:List UInt8) (v11:Int) (n12:Nat) (v13:Int) (m_0:Nat) (x_0:List Int):St:={ tm:=[(1,.int .i64 v1),(7,.str s7),(8,.str s8),(9,.str s9),(10,.str s10),(11,.int .i64 v11),(12,.s (.own 0 n12 1)),(13,.int .i64 v13)],hp:=[(0,{ ty:=5,n:=m_0,row:=Row.t (.ints .u8 x_0) })],nx:=1,sz:=75 }
def XrEx_b2:Code:=bodyL (codeAt [1,1,1,1,1,0,1,2,6,1,0,2,1,0,1,2] (codeF fF117))
def XrEx_k2 {β:Type} (fu:Nat) (G:Option St->Option β) (H:Ex->Option St->Option β):=kAt prog (g_XrEx T0 R0 f0a T1 R1 f1a) fu [1,0,2,1,0,1,2] XrEx_b1 (kRound (g_XrEx T0 R0 f0a T1 R1 f1a) XrEx_b1 G H)
abbrev XrEx_L2 {β:Type} (fu:Nat) (G:Option St->Option β) (H:Ex->Option St->Option β) (v1:Int) (s7:Str) (s8 s9 s10:List UInt8) (v11:Int) (n12:Nat) (v13:Int) (m_0:Nat) (x_0:List Int):=lpA prog (g_XrEx T0 R0 f0a T1 R1 f1a) fu XrEx_b2 (XrEx_k2 T0 R0 f0a T1 R1 f1a fu G H) fu (some (XrEx_s2 v1 s7 s8 s9 s10 v11 n12 v13 m_0 x_0))
def XrEx_o1e0 (v1:Int) (s10:List UInt8):St:={ tm:=[(1,.int .i64 v1),(10,.str s10)],hp:=[],nx:=0,sz:=75 }
theorem XrEx_r1 {β:Type} (fu:Nat) (G:Option St->Option β) (H:Ex->Option St->Option β) (v1:Int) (s7:Str) (s8 s9 s10:List UInt8) (v11:Int):lpR prog (g_XrEx T0 R0 f0a T1 R1 f1a) fu XrEx_b1 G H (XrEx_s1 v1 s7 s8 s9 s10 v11)=bif decide ((↑s10.length:Int) < v1) then XrEx_L2 T0 R0 f0a T1 R1 f1a fu G H v1 s7 s8 s9 s10 v11 64 (0:Int) 64 (List.replicate 64 (0:Int)) else H (Ex.exit 0) (some (XrEx_o1e0 v1 s10)):=by kernel_rfl
def XrEx_o2e2 (v1:Int) (s7:Str) (s8 s10:List UInt8) (v11:Int) (n12 m_0:Nat) (x_0:List Int):St:={ tm:=[(1,.int .i64 v1),(7,.str s7),(8,.str s8),(10,.str s10),(11,.int .i64 v11),(12,.s (.own 0 n12 1))],hp:=[(0,{ ty:=5,n:=m_0,row:=Row.t (.ints .u8 x_0) })],nx:=1,sz:=75 }
theorem XrEx_r2 {β:Type} (fu:Nat) (G:Option St->Option β) (H:Ex->Option St->Option β) (v1:Int) (s7:Str) (s8 s9 s10:List UInt8) (v11:Int) (n12:Nat) (v13:Int) (m_0:Nat) (x_0:List Int):lpR prog (g_XrEx T0 R0 f0a T1 R1 f1a) fu XrEx_b2 G H (XrEx_s2 v1 s7 s8 s9 s10 v11 n12 v13 m_0 x_0)=bif decide (v13 < (64:Int)) then bif decide ((0:Int) <= v13 /\ v13 < (↑s8.length:Int)) then bif decide ((0:Int) <= v13 /\ v13 < (↑s9.length:Int)) then bif decide ((0:Int) <= v13 /\ v13 < (↑n12:Int)) then G (some (XrEx_s2 v1 s7 s8 s9 s10 v11 n12 (i64.wrap (v13+(1:Int))) m_0 (x_0.set v13.toNat (bXor .u8 (↑(s8.getD v13.toNat (0:UInt8)).toNat:Int) (↑(s9.getD v13.toNat (0:UInt8)).toNat:Int))))) else none else none else none else H (Ex.exit 2) (some (XrEx_o2e2 v1 s7 s8 s10 v11 n12 m_0 x_0)):=by kernel_rfl
theorem XrEx_c1e0 (fu:Nat) (v1:Int) (s10:List UInt8):XrEx_k1 T0 R0 f0a T1 R1 f1a fu  (Ex.exit 0) (XrEx_o1e0 v1 s10)=bif decide ((0:Int) <= (0:Int) /\ (0:Int) <= v1 /\ v1 <= (↑s10.length:Int)) then some (AV.str (sl s10 (0:Int) v1)) else none:=by kernel_rfl
theorem XrEx_c2e2 {β:Type} (fu:Nat) (G:Option St->Option β) (H:Ex->Option St->Option β) (v1:Int) (s7:Str) (s8 s10:List UInt8) (v11:Int) (n12 m_0:Nat) (x_0:List Int):XrEx_k2 T0 R0 f0a T1 R1 f1a fu G H (Ex.exit 2) (XrEx_o2e2 v1 s7 s8 s10 v11 n12 m_0 x_0)=bif decide ((List.map b8 x_0).length+1 <= 9223372036854775807) then bif decide (List.length (List.map b8 x_0++List.map b8 [u8.wrap v11])+List.length s7 <= 9223372036854775807) then (R1 [.str (List.map b8 x_0++List.map b8 [u8.wrap v11]++s7)]).bind fun t=>bif decide (s10.length+(f1a t).length <= 9223372036854775807) then G (some (XrEx_s1 v1 s7 s8 (f1a t) (s10++f1a t) (i64.wrap (v11+(1:Int))))) else none else none else none:=by kernel_rfl
end
section
variable (T0:Type) (R0:List AV->Option T0) (f0a:T0->Str) (f0b:T0->Int) (T1:Type) (R1:List AV->Option T1) (T2:Type) (R2:List AV->Option T2) (f2a:T2->List UInt8)
def g_XmAw:Cg:=⟨⟨gam [(nF115,⟨R0,fun t=>AV.tup [.s (.pl (.str (f0a t))),.s (.pl (.int .i64 (f0b t)))]⟩),(nF116,⟨R1,fun t=>AV.bool (true)⟩),(nF117,⟨R2,fun t=>AV.str (f2a t)⟩)],[],noE⟩,[]⟩
theorem XmAw_ev (fu:Nat):afunc prog fF75 (g_XmAw T0 R0 f0a f0b T1 R1 T2 R2 f2a) fu []=(R0 [.str [(109:UInt8),97,114,107],.int .i64 (64:Int),.s (.dat (.strs [[(97:UInt8),98,99]]) 1 1)]).bind fun t=>(R1 []).bind fun t_1=>bif decide (f0b t=(0:Int)) then (R2 [.str [(109:UInt8),97,114,107],.int .i64 (64:Int),.str [(97:UInt8),98,99]]).bind fun t_2=>some (AV.bool (decide (f0a t=f2a t_2))) else some (AV.bool false):=by kernel_rfl
end
section
variable (T0:Type) (R0:List AV->Option T0)
def g_XmAb:Cg:=⟨⟨gam [(nF75,⟨R0,fun t=>AV.bool (true)⟩)],[],noE⟩,[]⟩
theorem XmAb_ev (fu:Nat):afunc prog fF27 (g_XmAb T0 R0) fu []=(R0 []).bind fun t=>some (AV.bool true):=by kernel_rfl
end
section
variable (T0:Type) (R0:List AV->Option T0) (f0a:T0->List UInt8) (T1:Type) (R1:List AV->Option T1) (f1a:T1->List UInt8)
end
section
variable (T0:Type) (R0:List AV->Option T0) (f0a:T0->Str) (f0b:T0->Int)
end
section
variable (T0:Type) (R0:List AV->Option T0) (f0a:T0->Str) (f0b:T0->Int)
end
section
variable (T0:Type) (R0:List AV->Option T0) (f0a:T0->List UInt8)
end
section
variable (T0:Type) (R0:List AV->Option T0) (f0a:T0->List UInt8) (T1:Type) (R1:List AV->Option T1) (f1a:T1->List UInt8)
end
section
variable (T0:Type) (R0:List AV->Option T0)
end
abbrev gI_XmXo:Cg:=g_XmXo 
theorem gok_XmXo:CfOk prog gI_XmXo.c:=⟨gam_nil,fun _ _ h=>by cases h⟩
abbrev gI_XmMa:Cg:=g_XmMa 
theorem gok_XmMa:CfOk prog gI_XmMa.c:=⟨gam_nil,fun _ _ h=>by cases h⟩
abbrev gI_XmOn:Cg:=g_XmOn 
theorem gok_XmOn:CfOk prog gI_XmOn.c:=⟨gam_nil,fun _ _ h=>by cases h⟩
abbrev gI_XmSu:Cg:=g_XmSu (List Nat) rSum (fun t=>up t)
theorem gok_XmSu:CfOk prog gI_XmSu.c:=⟨gam_cons ok_Sum <| gam_nil,fun _ _ h=>by cases h⟩
def xorI (a b:Str):List Int:=List.zipWith (fun x y=>((x.toNat ^^^ y.toNat:Nat):Int)) a b
theorem xorI_b8 (a b:Str):(xorI a b).map b8=xorL a b:=List.map_zipWith
theorem xorI_len (a b:Str):(xorI a b).length=min a.length b.length:=List.length_zipWith
theorem xorL_len (a b:Str):(xorL a b).length=min a.length b.length:=List.length_zipWith
theorem xorI_getD (a b:Str) (i:Nat) (ha:i < a.length) (hb:i < b.length):(xorI a b).getD i 0=(((a.getD i 0).toNat ^^^ (b.getD i 0).toNat:Nat):Int):=by
 simp only [xorI,List.getD_eq_getElem?_getD,List.getElem?_zipWith,List.getElem?_eq_getElem ha,List.getElem?_eq_getElem hb]
 rfl
theorem rt_set (R:List Int) (N i:Nat) (hN:R.length=N) (hi:i < N):(R.take i++List.replicate (N - i) 0).set i (R.getD i 0)=R.take (i+1)++List.replicate (N - (i+1)) 0:=by
 have e:R.take (i+1)=R.take i++[R.getD i 0]:=by
  rw [List.take_add_one,List.getElem?_eq_getElem (by omega),List.getD_eq_getElem?_getD,List.getElem?_eq_getElem (by omega)]; rfl
 have hl:(R.take i).length=i:=by rw [List.length_take]; omega
 rw [e,List.set_append_right _ _ (by rw [hl]; omega),hl,Nat.sub_self,show N - i=N - (i+1)+1 by omega,List.replicate_succ,List.set_cons_zero,List.append_assoc]; rfl
theorem xo_loop (a b:Str) (ha:a.length <= 1099511620000) (hb:b.length <= 1099511620000) (N m fu:Nat) (hN:N=min a.length b.length):∀ (d n i:Nat),i+d=N->d < n ->
  lpA prog gI_XmXo fu XmXo_b1 (XmXo_k1 fu) n (some (XmXo_s1 a b N (N:Int) (i:Int) m ((xorI a b).take i++List.replicate (N - i) 0)))=some (.str (xorL a b)):=by
 have hR:=xorI_len a b
 intro d
 induction d with
 | zero=>
  intro n i hi hn
  obtain ⟨n,rfl⟩:=Nat.exists_eq_succ_of_ne_zero (by omega:n ≠ 0)
  have e:i=N:=by omega
  rw [lpA_succ,XmXo_r1,decide_eq_false (by omega),cond_false,kOut_some,XmXo_c1e0,e,Nat.sub_self,List.replicate_zero,List.append_nil,List.take_of_length_le (by omega),xorI_b8]
 | succ d ih=>
  intro n i hi hn
  obtain ⟨n,rfl⟩:=Nat.exists_eq_succ_of_ne_zero (by omega:n ≠ 0)
  have h:=ih n (i+1) (by omega) (by omega)
  have g:=xorI_getD a b i (by omega) (by omega)
  rw [lpA_succ,XmXo_r1,decide_eq_true (by omega),cond_true,decide_eq_true (by omega),cond_true,decide_eq_true (by omega),cond_true,decide_eq_true (by omega),cond_true,Int.toNat_natCast,xor8 _ _ (a.getD i 0).toNat_lt (b.getD i 0).toNat_lt,<-g,rt_set _ N i (by omega) (by omega),wi64 (by omega) (by omega)]
  exact h
theorem minL' (a b:Nat):(if ((b:Nat):Int) < (a:Int) then (b:Int) else (a:Int))=((min a b:Nat):Int):=by split <;> omega
theorem ok_Xor:CallOk prog nF145 sXor:=by
 refine afunc_okE (g:=gI_XmXo) (fu:=fun args=>match args with | [.c (.s (.pl (.str a))),.c (.s (.pl (.str b)))]=>min a.length b.length+1 | _=>0) mixed gok_XmXo hF145 (by kernel_rfl) ?_
 intro args t ht
 unfold sXor at ht
 simp only at ht
 split at ht
 ·rename_i a b
  obtain ⟨h1,h2⟩:=ctrueS ht
  subst h2
  rw [Bool.and_eq_true] at h1
  have ha:=okLen_ok h1.1
  have hb:=okLen_ok h1.2
  refine (XmXo_ev ..).trans ?_
  rw [minL',decide_eq_true (by omega),cond_true,Int.toNat_natCast]
  exact xo_loop a b ha hb (min a.length b.length) (min a.length b.length*1) (min a.length b.length+1) rfl (min a.length b.length) (min a.length b.length+1) 0 (by omega) (Nat.lt_succ_self _)
 ·cases ht
theorem run_Xor {a b:Str} (ha:okLen a=true) (hb:okLen b=true):rXor [.str a,.str b]=some (xorL a b):=by
 have e:(okLen a && okLen b)=true:=by rw [ha,hb]; rfl
 simp only [rXor,sXor,e,cond_true]
theorem ok_Mark:CallOk prog nF142 sMark:=by
 refine afunc_okE (g:=gI_XmMa) (fu:=fun _=>0) mixed gok_XmMa hF142 (by kernel_rfl) ?_
 intro args t ht
 unfold sMark at ht
 simp only at ht
 split at ht
 ·rename_i a
  obtain ⟨h1,h2⟩:=ctrueS ht
  subst h2
  have ha:=okLen_ok h1
  refine (XmMa_ev ..).trans ?_
  unfold markS
  by_cases c:255 < a.length
  ·rw [decide_eq_true (by omega),cond_true,if_pos c]; rfl
  ·rw [decide_eq_false (by omega),cond_false,if_neg c]
   by_cases c2:a=[]
   ·rw [decide_eq_true c2,cond_true,if_pos c2]; rfl
   ·rw [decide_eq_false c2,cond_false,if_neg c2,decide_eq_true (by omega),cond_true,wu8n]; rfl
 ·cases ht
theorem run_Mark {a:Str} (ha:okLen a=true):rMark [.str a]=some (markS a):=by
 simp only [rMark,sMark,ha,cond_true]
theorem ok_OneB:CallOk prog nF143 sOneB:=by
 refine afunc_okE (g:=gI_XmOn) (fu:=fun _=>0) mixed gok_XmOn hF143 (by kernel_rfl) ?_
 intro args t ht
 unfold sOneB at ht
 simp only at ht
 split at ht
 ·cases ht; exact XmOn_ev ..
 ·cases ht
theorem ok_Xsum:CallOk prog nF144 sXsum:=by
 refine afunc_okE (g:=gI_XmSu) (fu:=fun _=>0) mixed gok_XmSu hF144 (by kernel_rfl) ?_
 intro args t ht
 unfold sXsum at ht
 simp only at ht
 split at ht
 ·rename_i ss n
  obtain ⟨h1,h2⟩:=ctrueS ht
  subst h2
  refine (XmSu_ev ..).trans ?_
  rw [run_Sum h1,Option.bind_some,List.drop_zero,List.take_of_length_le (by rw [up_len,sumB_len]; exact Nat.le_refl _)]; rfl
 ·cases ht
theorem run_OneB (n:Int):rOneB [.int .u8 n]=some [b8 n]:=rfl
theorem run_Xsum {ss:List Str} {n:Nat} (h:okSum ss n=true):rXsum [.s (.dat (.strs ss) n 1)]=some (hS (Lib.join ss [])):=by
 simp only [rXsum,sXsum,h,cond_true]
theorem blocksS_succ (f:Nat->Str) (k:Nat):blocksS f (k+1)=blocksS f k++f k:=by
 unfold blocksS
 rw [List.range_succ,List.map_append,List.flatten_append]
 simp
theorem blocksS_len (f:Nat->Str) (h:∀ i,(f i).length=64):∀ k,(blocksS f k).length=64*k:=by
 intro k
 induction k with
 | zero=>rfl
 | succ k ih=>rw [blocksS_succ,List.length_append,ih,h]; omega
theorem xB_len (d:Str) (n:Nat) (m:Str) (i:Nat):(xB d n m i).length=64:=by cases i <;> exact hS_len _
theorem join3 (a b c:Str):Lib.join ([a]++([b]++[c])) []=a++(b++c):=by rw [join_flat]; simp
theorem join6 (a b c d e f:Str):Lib.join ([a]++([b]++([c]++([d]++([e]++[f]))))) []=a++(b++(c++(d++(e++f)))):=by rw [join_flat]; simp
theorem run_Xsum3 {a b c:Str} (h:a.length+b.length+c.length <= 1099511627776):rXsum [.s (.dat (.strs ([a]++([b]++[c]))) 3 1)]=some (hS (a++(b++c))):=by
 have j:=join3 a b c
 have:=run_Xsum (ss:=[a]++([b]++[c])) (n:=3) (okSum_of rfl (by simp) (by rw [j,List.length_append,List.length_append]; omega))
 rw [this,j]
theorem run_Xsum6 {a b c d e f:Str} (h:a.length+b.length+c.length+d.length+e.length+f.length <= 1099511627776):rXsum [.s (.dat (.strs ([a]++([b]++([c]++([d]++([e]++[f])))))) 6 1)]=some (hS (a++(b++(c++(d++(e++f)))))):=by
 have j:=join6 a b c d e f
 have:=run_Xsum (ss:=[a]++([b]++([c]++([d]++([e]++[f]))))) (n:=6) (okSum_of rfl (by simp) (by rw [j]; simp only [List.length_append]; omega))
 rw [this,j]
abbrev gI_XmEx:Cg:=g_XmEx (Str × Int) rMark (fun t=>t.fst) (fun t=>t.snd) (List UInt8) rOneB (fun t=>t) (List UInt8) rRepeat (fun t=>t) (List UInt8) rJoin (fun t=>t) (List UInt8) rXsum (fun t=>t) (List UInt8) rXor (fun t=>t)
theorem gok_XmEx:CfOk prog gI_XmEx.c:=⟨gam_cons ok_Mark <| gam_cons ok_OneB <| gam_cons ok_Repeat <| gam_cons ok_Join <| gam_cons ok_Xsum <| gam_cons ok_Xor <| gam_nil,fun _ _ h=>by cases h⟩
theorem by1_len (n:Nat):(by1 n).length=1:=rfl
theorem xe_loop (d:Str) (hd:d.length <= 255) (k:Nat) (hk:k <= 16320) (m:Str) (fu:Nat):∀ (e n j:Nat),j+1+e=up64 k->e < n ->
  lpA prog gI_XmEx fu XmEx_b1 (XmEx_k1 _ rMark (fun t=>t.1) (fun t=>t.2) _ rOneB (fun t=>t) _ rRepeat (fun t=>t) _ rJoin (fun t=>t) _ rXsum (fun t=>t) _ rXor (fun t=>t) fu) n
   (some (XmEx_s1 (k:Int) (d++by1 d.length) (xFirst d k m) (xB d k m j) (blocksS (xB d k m) (j+1)) (((j+2)%256:Nat):Int)))=some (.tup [.s (.pl (.str (xmdS d k m))),.s (.pl (.int .i64 0))]):=by
 have hf:(xFirst d k m).length=64:=hS_len _
 intro e
 induction e with
 | zero=>
  intro n j hj hn
  obtain ⟨n,rfl⟩:=Nat.exists_eq_succ_of_ne_zero (by omega:n ≠ 0)
  have hb:=blocksS_len (xB d k m) (xB_len d k m) (j+1)
  unfold up64 at hj
  rw [lpA_succ,XmEx_r1,decide_eq_false (by omega),cond_false,kOut_some,XmEx_c1e0,decide_eq_true (by omega),cond_true,xmdS,show up64 k=j+1 from hj.symm]
  have:sl (blocksS (xB d k m) (j+1)) 0 (k:Int)=(blocksS (xB d k m) (j+1)).take k:=by rw [sl]; simp
  rw [this]
 | succ e ih=>
  intro n j hj hn
  obtain ⟨n,rfl⟩:=Nat.exists_eq_succ_of_ne_zero (by omega:n ≠ 0)
  have hb:=blocksS_len (xB d k m) (xB_len d k m) (j+1)
  have h:=ih n (j+1) (by omega) (by omega)
  have hx:=xorL_len (xFirst d k m) (xB d k m j)
  have hl:=xB_len d k m j
  have hl':=xB_len d k m (j+1)
  unfold up64 at hj
  have step:hS (xorL (xFirst d k m) (xB d k m j)++(by1 (j+2)++(d++by1 d.length)))=xB d k m (j+1):=rfl
  rw [lpA_succ,XmEx_r1,decide_eq_true (by omega),cond_true,run_Xor (okLen_of (by omega)) (okLen_of (by omega)),Option.bind_some,run_OneB,Option.bind_some]
  show (rXsum [AV.s (.dat (.strs ([xorL (xFirst d k m) (xB d k m j)]++([by1 (j+2)]++[d++by1 d.length]))) 3 1)]).bind _=_
  rw [run_Xsum3 (by rw [List.length_append,by1_len,by1_len]; omega),Option.bind_some,step,decide_eq_true (by omega),cond_true]
  rw [blocksS_succ] at h
  have w:u8.wrap ((((j+2)%256:Nat):Int)+1)=(((j+1+2)%256:Nat):Int):=by
   rw [show (((j+2)%256:Nat):Int)+1=(((j+2)%256+1:Nat):Int) by omega,wu8n]
   omega
  rw [w]
  exact h
theorem ok_Xmd:CallOk prog nF115 sXmd:=by
 refine afunc_okE (g:=gI_XmEx) (fu:=fun _=>300) mixed gok_XmEx hF115 (by kernel_rfl) ?_
 intro args t ht
 unfold sXmd at ht
 simp only at ht
 split at ht
 ·rename_i d k ss n
  obtain ⟨h1,h2⟩:=ctrueS ht
  subst h2
  rw [Bool.and_eq_true] at h1
  have hd:=okLen_ok h1.1
  obtain ⟨e1,l1,l2⟩:=okJ_ok h1.2
  refine (XmEx_ev ..).trans ?_
  unfold xmdA
  by_cases c:k < 1 ∨ 16320 < k
  ·rw [if_pos c,show (decide (k < 1) || decide (16320 < k))=true by rw [<-Bool.decide_or]; exact decide_eq_true c,cond_true]; rfl
  ·rw [if_neg c,show (decide (k < 1) || decide (16320 < k))=false by rw [<-Bool.decide_or]; exact decide_eq_false c,cond_false,run_Mark h1.1,Option.bind_some]
   by_cases c2:(markS d).2=0
   ·rw [decide_eq_true c2,Bool.not_true,cond_false,if_neg (fun h=>h c2)]
    have hm:(markS d).1=d++by1 d.length /\ d.length <= 255:=by
     unfold markS at c2 ⊢
     split at c2
     ·cases c2
     ·rename_i h
      split at c2
      ·cases c2
      ·rename_i h'
       rw [if_neg h,if_neg h']
       exact ⟨rfl,by omega⟩
    obtain ⟨q,rfl⟩:=Int.eq_ofNat_of_zero_le (by omega:0 <= k)
    have r1:rRepeat [.str [0],.int .i64 128]=some (Lib.repeatL [0] 128):=run_Repeat [0] 128 (by decide) (by decide)
    have j0:rJoin [.s (.dat (.strs ss) n 1),.str []]=some (Lib.join ss []):=run_Join (by rw [e1]; exact okSum_of rfl (by omega) (by omega))
    rw [r1,Option.bind_some,j0,Option.bind_some,run_OneB,Option.bind_some,run_OneB,Option.bind_some,run_OneB,Option.bind_some,hm.1,repeatL0,show (8:Int)=((8:Nat):Int) from rfl,shrI64 _ _ (by decide) (by omega),wu8n,wu8n]
    show (rXsum [AV.s (.dat (.strs ([List.replicate 128 0]++([Lib.join ss []]++([by1 (q / 256)]++([by1 q]++([[0]]++[d++by1 d.length])))))) 6 1)]).bind _=_
    rw [run_Xsum6 (by simp only [List.length_append,List.length_replicate,by1_len,List.length_singleton]; omega),Option.bind_some,run_OneB,Option.bind_some]
    rw [show hS (List.replicate 128 0++(Lib.join ss []++(by1 (q / 256)++(by1 q++([0]++(d++by1 d.length))))))=xFirst d q (Lib.join ss []) from rfl]
    have hf:(xFirst d q (Lib.join ss [])).length=64:=hS_len _
    show (rXsum [AV.s (.dat (.strs ([xFirst d q (Lib.join ss [])]++([[1]]++[d++by1 d.length]))) 3 1)]).bind _=_
    rw [run_Xsum3 (by simp only [List.length_append,by1_len,List.length_singleton]; omega),Option.bind_some]
    have:=xe_loop d hm.2 q (by omega) (Lib.join ss []) 300 (up64 q - 1) 300 0 (by unfold up64; omega) (by unfold up64; omega)
    exact this
   ·rw [decide_eq_false c2,Bool.not_false,cond_true,if_pos c2]; rfl
 ·cases ht
theorem run_Xmd {d:Str} {k:Int} {ss:List Str} {n:Nat} (h:okLen d=true) (h2:okJ ss n=true):rXmd [.str d,.int .i64 k,.s (.dat (.strs ss) n 1)]=some (xmdA d k (Lib.join ss [])):=by
 have e:(okLen d && okJ ss n)=true:=by rw [h,h2]; rfl
 simp only [rXmd,sXmd,e,cond_true]
abbrev gI_XrEx:Cg:=g_XrEx (List UInt8) rTwoB (fun t=>t) (List UInt8) rRefH (fun t=>t)
theorem gok_XrEx:CfOk prog gI_XrEx.c:=⟨gam_cons ok_Two <| gam_cons ok_RefH <| gam_nil,fun _ _ h=>by cases h⟩
theorem xr_inner {β:Type} (d:Str) (k:Nat) (b0 b out:Str) (h0:b0.length=64) (hb:b.length=64) (v:Int) (mk:Str) (fu m:Nat) (G:Option St->Option β) (H:Ex->Option St->Option β):∀ (e n i:Nat),i+e=64->e < n ->
  lpA prog gI_XrEx fu XrEx_b2 (XrEx_k2 _ rTwoB (fun t=>t) _ rRefH (fun t=>t) fu G H) n (some (XrEx_s2 (k:Int) mk b0 b out v 64 (i:Int) m ((xorI b0 b).take i++List.replicate (64 - i) 0))) =
   XrEx_k2 _ rTwoB (fun t=>t) _ rRefH (fun t=>t) fu G H (.exit 2) (XrEx_o2e2 (k:Int) mk b0 out v 64 m (xorI b0 b)):=by
 have hR:=xorI_len b0 b
 intro e
 induction e with
 | zero=>
  intro n i hi hn
  obtain ⟨n,rfl⟩:=Nat.exists_eq_succ_of_ne_zero (by omega:n ≠ 0)
  have e:i=64:=by omega
  subst e
  rw [lpA_succ,XrEx_r2,decide_eq_false (by decide),cond_false,kOut_some,Nat.sub_self,List.replicate_zero,List.append_nil,List.take_of_length_le (by omega)]
 | succ e ih=>
  intro n i hi hn
  obtain ⟨n,rfl⟩:=Nat.exists_eq_succ_of_ne_zero (by omega:n ≠ 0)
  have h:=ih n (i+1) (by omega) (by omega)
  have g:=xorI_getD b0 b i (by omega) (by omega)
  rw [lpA_succ,XrEx_r2,decide_eq_true (by omega),cond_true,decide_eq_true (by omega),cond_true,decide_eq_true (by omega),cond_true,decide_eq_true (by omega),cond_true,Int.toNat_natCast,xor8 _ _ (b0.getD i 0).toNat_lt (b.getD i 0).toNat_lt,<-g,rt_set _ 64 i (by omega) (by omega),wi64 (by omega) (by omega)]
  exact h
theorem xr_loop (d:Str) (hd:d.length <= 255) (k:Nat) (hk:k <= 16320) (m:Str) (fu:Nat) (hfu:64 < fu):∀ (e n j:Nat),j+1+e=up64 k->e < n ->
  lpA prog gI_XrEx fu XrEx_b1 (XrEx_k1 _ rTwoB (fun t=>t) _ rRefH (fun t=>t) fu) n
   (some (XrEx_s1 (k:Int) (d++by1 d.length) (xFirst d k m) (xB d k m j) (blocksS (xB d k m) (j+1)) ((j+2:Nat):Int)))=some (.str (xmdS d k m)):=by
 have hf:(xFirst d k m).length=64:=hS_len _
 intro e
 induction e with
 | zero=>
  intro n j hj hn
  obtain ⟨n,rfl⟩:=Nat.exists_eq_succ_of_ne_zero (by omega:n ≠ 0)
  have hb:=blocksS_len (xB d k m) (xB_len d k m) (j+1)
  unfold up64 at hj
  rw [lpA_succ,XrEx_r1,decide_eq_false (by omega),cond_false,kOut_some,XrEx_c1e0,decide_eq_true (by omega),cond_true,xmdS,show up64 k=j+1 from hj.symm]
  have:sl (blocksS (xB d k m) (j+1)) 0 (k:Int)=(blocksS (xB d k m) (j+1)).take k:=by rw [sl]; simp
  rw [this]
 | succ e ih=>
  intro n j hj hn
  obtain ⟨n,rfl⟩:=Nat.exists_eq_succ_of_ne_zero (by omega:n ≠ 0)
  have hb:=blocksS_len (xB d k m) (xB_len d k m) (j+1)
  have h:=ih n (j+1) (by omega) (by omega)
  have hx:=xorL_len (xFirst d k m) (xB d k m j)
  have hl:=xB_len d k m j
  have hl':=xB_len d k m (j+1)
  unfold up64 at hj
  have step:hS (xorL (xFirst d k m) (xB d k m j)++by1 (j+2)++(d++by1 d.length))=xB d k m (j+1):=by rw [List.append_assoc]; rfl
  rw [lpA_succ,XrEx_r1,decide_eq_true (by omega),cond_true]
  refine Eq.trans (xr_inner d k (xFirst d k m) (xB d k m j) (blocksS (xB d k m) (j+1)) hf hl _ (d++by1 d.length) fu 64 _ _ 64 fu 0 (by omega) (by omega)) ?_
  rw [XrEx_c2e2,xorI_b8,wu8n]
  rw [decide_eq_true (by omega),cond_true]
  show (bif decide (List.length (xorL (xFirst d k m) (xB d k m j)++by1 (j+2))+List.length (d++by1 d.length) <= 9223372036854775807) then (rRefH [AV.str (xorL (xFirst d k m) (xB d k m j)++by1 (j+2)++(d++by1 d.length))]).bind _ else none)=_
  have hlen:(xorL (xFirst d k m) (xB d k m j)++by1 (j+2)).length+(d++by1 d.length).length <= 1000:=by
   simp only [List.length_append,by1_len]; omega
  rw [decide_eq_true (by omega),cond_true,run_RefH (by rw [List.length_append]; omega),Option.bind_some]
  show (bif decide ((blocksS (xB d k m) (j+1)).length+(hS (xorL (xFirst d k m) (xB d k m j)++by1 (j+2)++(d++by1 d.length))).length <= _) then lpA prog gI_XrEx fu XrEx_b1 (XrEx_k1 _ rTwoB (fun t=>t) _ rRefH (fun t=>t) fu) n (some (XrEx_s1 (k:Int) (d++by1 d.length) (xFirst d k m) (hS (xorL (xFirst d k m) (xB d k m j)++by1 (j+2)++(d++by1 d.length))) (blocksS (xB d k m) (j+1)++hS (xorL (xFirst d k m) (xB d k m j)++by1 (j+2)++(d++by1 d.length))) (i64.wrap (((j+2:Nat):Int)+1)))) else none)=_
  rw [step,decide_eq_true (by omega),cond_true,wi64 (by omega) (by omega)]
  rw [blocksS_succ] at h
  exact h
theorem b8_zeros (n:Nat):List.map b8 (List.replicate n (0:Int))=List.replicate n 0:=by rw [List.map_replicate]; rfl
theorem ok_RefXmd:CallOk prog nF117 sRefXmd:=by
 refine afunc_okE (g:=gI_XrEx) (fu:=fun _=>300) mixed gok_XrEx hF117 (by kernel_rfl) ?_
 intro args t ht
 unfold sRefXmd at ht
 simp only at ht
 split at ht
 ·rename_i d k m
  obtain ⟨h1,h2⟩:=ctrueS ht
  subst h2
  rw [Bool.and_eq_true,decide_eq_true_eq] at h1
  have hm:=okLen_ok h1.1
  obtain ⟨q,rfl⟩:=Int.eq_ofNat_of_zero_le (by omega:0 <= k)
  refine (XrEx_ev ..).trans ?_
  rw [decide_eq_true (by omega),cond_true,decide_eq_true (by omega),cond_true,run_Two (n:=q) (by omega),Option.bind_some,b8_zeros,wu8n]
  have l1:(List.replicate 128 (0:UInt8)++m).length=128+m.length:=by rw [List.length_append,List.length_replicate]
  have l2:(d++List.map b8 [((d.length%256:Nat):Int)]).length=d.length+1:=by rw [List.length_append]; rfl
  have e1:hS (List.replicate 128 0++m++pre2 q++[0]++(d++by1 d.length))=xFirst d q m:=by
   rw [xFirst,show pre2 q=by1 (q / 256)++by1 q from rfl]
   simp only [List.append_assoc]
  rw [decide_eq_true (by rw [l1,pre2_len]; omega),cond_true,decide_eq_true (by rw [List.length_append,l1,pre2_len]; omega),cond_true,decide_eq_true (by rw [List.length_append,List.length_append,l1,pre2_len,l2]; simp; omega),cond_true,
   run_RefH (by simp only [List.length_append,l1,pre2_len,l2,List.length_singleton,List.length_map,List.length_replicate]; omega),Option.bind_some]
  show (bif decide ((hS (List.replicate 128 0++m++pre2 q++[0]++(d++by1 d.length))).length+1 <= 9223372036854775807) then (bif decide (List.length (hS (List.replicate 128 0++m++pre2 q++[0]++(d++by1 d.length))++[1])+List.length (d++by1 d.length) <= 9223372036854775807) then (rRefH [AV.str (hS (List.replicate 128 0++m++pre2 q++[0]++(d++by1 d.length))++[1]++(d++by1 d.length))]).bind (fun t=>XrEx_L1 _ rTwoB (fun t=>t) _ rRefH (fun t=>t) 300 (q:Int) (d++by1 d.length) (hS (List.replicate 128 0++m++pre2 q++[0]++(d++by1 d.length))) t t 2) else none) else none)=_
  rw [e1]
  have hf:(xFirst d q m).length=64:=hS_len _
  have l3:(d++by1 d.length).length=d.length+1:=by rw [List.length_append,by1_len]
  rw [decide_eq_true (by omega),cond_true,decide_eq_true (by rw [List.length_append,l3,hf]; simp; omega),cond_true,run_RefH (by rw [List.length_append,List.length_append,l3,hf]; simp; omega),Option.bind_some]
  have e2:((up (sumB (xFirst d q m++[1]++(d++by1 d.length)))).map b8)=xB d q m 0:=by
   rw [List.append_assoc]; rfl
  rw [e2]
  have:=xr_loop d h1.2.1 q (by omega) m 300 (by decide) (up64 q - 1) 300 0 (by unfold up64; omega) (by unfold up64; omega)
  exact this
 ·cases ht
theorem run_RefXmd {d m:Str} {k:Int} (h:okLen m=true) (h2:d.length <= 255) (h3:1 <= k) (h4:k <= 16320):rRefXmd [.str d,.int .i64 k,.str m]=some (xmdS d k.toNat m):=by
 have e:(okLen m && decide (d.length <= 255 /\ 1 <= k /\ k <= 16320))=true:=by rw [h,decide_eq_true ⟨h2,h3,h4⟩]; rfl
 simp only [rRefXmd,sRefXmd,e,cond_true]
abbrev gI_XmAw:Cg:=g_XmAw (Str × Int) rXmd (fun t=>t.fst) (fun t=>t.snd) (PUnit) rTrue (List UInt8) rRefXmd (fun t=>t)
theorem gok_XmAw:CfOk prog gI_XmAw.c:=⟨gam_cons ok_Xmd <| gam_cons ok_Awake02 <| gam_cons ok_RefXmd <| gam_nil,fun _ _ h=>by cases h⟩
theorem ok_awake04:CallOk prog nF75 sTrue:=by
 refine afunc_okE (g:=gI_XmAw) (fu:=fun _=>0) mixed gok_XmAw hF75 (by kernel_rfl) ?_
 intro args t ht
 unfold sTrue at ht
 simp only at ht
 split at ht
 ·cases ht
  refine (XmAw_ev ..).trans ?_
  have e:xmdA [109,97,114,107] 64 (Lib.join [[97,98,99]] [])=(xmdS [109,97,114,107] 64 [97,98,99],0):=by
   rw [Lib.join_one,xmdA,if_neg (by omega),if_neg (by decide)]; rfl
  rw [run_Xmd (by decide) (by decide),Option.bind_some,show rTrue []=some () from rfl,Option.bind_some,e]
  dsimp only
  rw [decide_eq_true (rfl:(0:Int)=0),cond_true,run_RefXmd (by decide) (by decide) (by decide) (by decide),Option.bind_some]
  rw [show Int.toNat 64=64 from rfl,decide_eq_true rfl]; rfl
 ·cases ht
abbrev gI_XmAb:Cg:=g_XmAb (PUnit) rTrue
theorem gok_XmAb:CfOk prog gI_XmAb.c:=⟨gam_cons ok_awake04 <| gam_nil,fun _ _ h=>by cases h⟩
theorem ok_Awake04:CallOk prog nF27 sTrue:=by
 refine afunc_okE (g:=gI_XmAb) (fu:=fun _=>0) mixed gok_XmAb hF27 (by kernel_rfl) ?_
 intro args t ht
 unfold sTrue at ht
 simp only at ht
 split at ht
 ·cases ht
  refine (XmAb_ev ..).trans ?_
  rw [show rTrue []=some () from rfl,Option.bind_some]; rfl
 ·cases ht
theorem xmdS_len (d:Str) (n:Nat) (m:Str):(xmdS d n m).length=n:=by
 rw [xmdS,List.length_take,blocksS_len _ (xB_len d n m)]
 unfold up64
 omega
end
end Go.Eng
