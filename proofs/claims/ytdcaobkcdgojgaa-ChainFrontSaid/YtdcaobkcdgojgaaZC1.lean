import Derived.Test.YtdcaobkcdgojgaaZH1
namespace Go.Eng
open Go.IntKind (u64 i64 u8)
noncomputable section
open Go Go.Proofs
set_option linter.all false
def numF:Nat->Nat->Str
 | 0,_=>[]
 | k+1,n=>numF k (n / 256)++[b8 ((n%256:Nat):Int)]
def valF:Nat->Str->Nat
 | v,[]=>v
 | v,c :: r=>valF (v*256+c.toNat) r
structure En where
 seq:Nat
 tick:Nat
 kind:Int
 name:Str
 note:Str
def en0:En:=⟨0,0,0,[],[]⟩
def eEn (e:En):List SV:=[.pl (.int .u64 (e.seq:Int)),.pl (.int .u64 (e.tick:Int)),.pl (.int .i64 e.kind),.pl (.str e.name),.pl (.str e.note)]
def sNum8:Summ where
 T:=Str
 run:=fun
  | [.c (.s (.pl (.int .u64 n)))]=>cond (in64 n) (some (numF 8 n.toNat)) none
  | _=>none
 enc:=fun t=>.str t
def rNum8:List AV->Option Str:=sNum8.run
def sBack:Summ where
 T:=Nat
 run:=fun
  | [.c (.s (.pl (.str s)))]=>cond (decide (8 <= s.length)) (some (valF 0 (s.take 8))) none
  | _=>none
 enc:=fun t=>.int .u64 (t:Int)
def rBack:List AV->Option Nat:=sBack.run
def textE (e:En):Str × Int :=
 if e.kind < 1 ∨ 11 < e.kind then ([],11) else if 64 < e.name.length ∨ 255 < e.note.length then ([],5)
 else (numF 8 e.seq++numF 8 e.tick++[b8 e.kind]++cntL [e.name,e.note],0)
def runE {T:Type} (F:En->T):List AV->Option T
 | [.c (.mix [.pl (.int .u64 a),.pl (.int .u64 b),.pl (.int .i64 k),.pl (.str s),.pl (.str t)])]=>cond (in64 a && in64 b) (some (F ⟨a.toNat,b.toNat,k,s,t⟩)) none
 | _=>none
def sTextE:Summ:={ T:=Str × Int,run:=runE textE,enc:=fun t=>.tup [.s (.pl (.str t.1)),.s (.pl (.int .i64 t.2))] }
def rTextE:List AV->Option (Str × Int):=sTextE.run
def cut1 (s:Str):Str × Str × Bool :=
 if s.length < 2 then ([],[],false) else if s.length - 2 < 256*(s.getD 0 0).toNat+(s.getD 1 0).toNat then ([],[],false)
 else ((s.drop 2).take (256*(s.getD 0 0).toNat+(s.getD 1 0).toNat),(s.drop 2).drop (256*(s.getD 0 0).toNat+(s.getD 1 0).toNat),true)
def sCut1:Summ where
 T:=Str × Str × Bool
 run:=fun
  | [.c (.s (.pl (.str s)))]=>cond (decide (s.length <= 1099511627776)) (some (cut1 s)) none
  | _=>none
 enc:=fun t=>.tup [.s (.pl (.str t.1)),.s (.pl (.str t.2.1)),.s (.pl (.bool t.2.2))]
def rCut1:List AV->Option (Str × Str × Bool):=sCut1.run
def parE (t:Str):En × Int :=
 if t.length < 17 then (en0,4) else
 let p:=cut1 (t.drop 17)
 let q:=cut1 p.2.1
 let e:En:=⟨valF 0 (t.take 8),valF 0 ((t.drop 8).take 8),((t.getD 16 0).toNat:Int),p.1,q.1⟩
 if p.2.2=true /\ q.2.2=true /\ q.2.1=[] /\ textE e=(t,0) then (e,0) else (en0,4)
def sParE:Summ where
 T:=En × Int
 run:=fun
  | [.c (.s (.pl (.str s)))]=>cond (decide (s.length <= 1099511627776)) (some (parE s)) none
  | _=>none
 enc:=fun t=>.tup [.mix [.pl (.int .u64 (t.1.seq:Int)),.pl (.int .u64 (t.1.tick:Int)),.pl (.int .i64 t.1.kind),.pl (.str t.1.name),.pl (.str t.1.note)],.s (.pl (.int .i64 t.2))]
def rParE:List AV->Option (En × Int):=sParE.run
def sFirst:Summ where
 T:=Unit
 run:=fun
  | []=>some ()
  | _=>none
 enc:=fun _=>.str (List.replicate 64 0)
def rFirst:List AV->Option Unit:=sFirst.run
def headF (n:Nat) (h:Str):Str:=if n=0 then List.replicate 64 0 else h
def linkF (s t:Str):Str:=hS ([79,80,65,76]++s++t)
def sHead:Summ where
 T:=Str
 run:=fun
  | [.c (.mix [.pl (.int .u64 n),.pl (.str h)])]=>cond (in64 n) (some (headF n.toNat h)) none
  | _=>none
 enc:=fun t=>.str t
def rHead:List AV->Option Str:=sHead.run
def sLen1:Summ where
 T:=Int
 run:=fun
  | [.c (.mix [.pl (.int .u64 n),.pl (.str h)])]=>some n
  | _=>none
 enc:=fun t=>.int .u64 t
def rLen1:List AV->Option Int:=sLen1.run
def sLink:Summ where
 T:=Str
 run:=fun
  | [.c (.s (.pl (.str s))),.c (.s (.pl (.str t)))]=>cond (decide (s.length <= 1099511627) && decide (t.length <= 1099511627)) (some (linkF s t)) none
  | _=>none
 enc:=fun t=>.str t
def rLink:List AV->Option Str:=sLink.run
def addC (n:Nat) (h:Str) (e:En):Nat × Str × En × Int :=
 if (textE e).2=0 then ((n+1)%18446744073709551616,linkF (headF n h) (textE e).1,e,0) else (0,[],en0,(textE e).2)
def sAddC:Summ where
 T:=Nat × Str × En × Int
 run:=fun
  | [.c (.mix [.pl (.int .u64 n),.pl (.str h)]),.c (.s (.pl (.int .u64 tk))),.c (.s (.pl (.int .i64 k))),.c (.s (.pl (.str s))),.c (.s (.pl (.str t)))]=>
   cond (in64 n && in64 tk && decide (h.length <= 1099511627)) (some (addC n.toNat h ⟨n.toNat,tk.toNat,k,s,t⟩)) none
  | _=>none
 enc:=fun t=>.tup [.mix [.pl (.int .u64 (t.1:Int)),.pl (.str t.2.1)],.mix [.pl (.int .u64 (t.2.2.1.seq:Int)),.pl (.int .u64 (t.2.2.1.tick:Int)),.pl (.int .i64 t.2.2.1.kind),.pl (.str t.2.2.1.name),.pl (.str t.2.2.1.note)],.s (.pl (.int .i64 t.2.2.2))]
def rAddC:List AV->Option (Nat × Str × En × Int):=sAddC.run
def sVer0:Summ where
 T:=Int × Int
 run:=fun
  | [.c (.s (.pl (.str s))),.c (.s (.dat (.strs []) 0 1))]=>some (0,cond (decide (List.replicate 64 0=s)) 0 27)
  | _=>none
 enc:=fun t=>.tup [.s (.pl (.int .i64 t.1)),.s (.pl (.int .i64 t.2))]
def rVer0:List AV->Option (Int × Int):=sVer0.run
def g_CNu:Cg:=⟨⟨gam [],[],noE⟩,[(4,[0,3,7,8],[3])]⟩
def CNu_s1 (v0:Int) (n3:Nat) (v7 v8:Int) (m_0:Nat) (x_0:List Int):St:={ tm:=[(0,.int .u64 v0),(3,.s (.own 0 n3 1)),(7,.int .i64 v7),(8,.int .i64 v8)],hp:=[(0,{ ty:=5,n:=m_0,row:=Row.t (.ints .u8 x_0) })],nx:=1,sz:=23 }
def CNu_b1:Code:=bodyL (codeAt [1,1,0,1,2] (codeF fF13))
def CNu_k1 (fu:Nat):=kAt prog g_CNu fu [1,1,0,1,2] (codeF fF13) (kFin prog fF13)
abbrev CNu_L1 (fu:Nat) (v0:Int) (n3:Nat) (v7 v8:Int) (m_0:Nat) (x_0:List Int):=lpA prog g_CNu fu CNu_b1 (CNu_k1 fu ) fu (some (CNu_s1 v0 n3 v7 v8 m_0 x_0))
theorem CNu_ev (fu:Nat) (n:Int):afunc prog fF13 g_CNu fu [.int .u64 n]=CNu_L1 fu n 8 (8:Int) (0:Int) 8 (List.replicate 8 (0:Int)):=by kernel_rfl
def CNu_o1e0 (n3 m_0:Nat) (x_0:List Int):St:={ tm:=[(3,.s (.own 0 n3 1))],hp:=[(0,{ ty:=5,n:=m_0,row:=Row.t (.ints .u8 x_0) })],nx:=1,sz:=23 }
theorem CNu_r1 {β:Type} (fu:Nat) (G:Option St->Option β) (H:Ex->Option St->Option β) (v0:Int) (n3:Nat) (v7 v8:Int) (m_0:Nat) (x_0:List Int):lpR prog g_CNu fu CNu_b1 G H (CNu_s1 v0 n3 v7 v8 m_0 x_0)=bif decide (v8 < v7) then bif decide (i64.wrap ((56:Int) - i64.wrap ((8:Int)*v8)) < (0:Int)) then none else bif decide ((0:Int) <= v8 /\ v8 < (↑n3:Int)) then G (some (CNu_s1 v0 n3 v7 (i64.wrap (v8+(1:Int))) m_0 (x_0.set v8.toNat (u8.wrap (bShr .u64 v0 (i64.wrap ((56:Int) - i64.wrap ((8:Int)*v8)))))))) else none else H (Ex.exit 0) (some (CNu_o1e0 n3 m_0 x_0)):=by kernel_rfl
theorem CNu_c1e0 (fu:Nat) (n3 m_0:Nat) (x_0:List Int):CNu_k1 fu  (Ex.exit 0) (CNu_o1e0 n3 m_0 x_0)=some (AV.str (List.map b8 x_0)):=by kernel_rfl
def g_ChB:Cg:=⟨⟨gam [],[],noE⟩,[(4,[0,3,5],[3])]⟩
def ChB_s1 (s0:Str) (v3 v5:Int):St:={ tm:=[(0,.str s0),(3,.int .u64 v3),(5,.int .i64 v5)],hp:=[],nx:=0,sz:=17 }
def ChB_b1:Code:=bodyL (codeAt [1,1,0,1,2] (codeF fF20))
def ChB_k1 (fu:Nat):=kAt prog g_ChB fu [1,1,0,1,2] (codeF fF20) (kFin prog fF20)
abbrev ChB_L1 (fu:Nat) (s0:Str) (v3 v5:Int):=lpA prog g_ChB fu ChB_b1 (ChB_k1 fu ) fu (some (ChB_s1 s0 v3 v5))
theorem ChB_ev (fu:Nat) (s:Str):afunc prog fF20 g_ChB fu [.str s]=ChB_L1 fu s (0:Int) (0:Int):=by kernel_rfl
def ChB_o1e0 (v3:Int):St:={ tm:=[(3,.int .u64 v3)],hp:=[],nx:=0,sz:=17 }
theorem ChB_r1 {β:Type} (fu:Nat) (G:Option St->Option β) (H:Ex->Option St->Option β) (s0:Str) (v3 v5:Int):lpR prog g_ChB fu ChB_b1 G H (ChB_s1 s0 v3 v5)=bif decide (v5 < (8:Int)) then bif decide ((0:Int) <= v5 /\ v5 < (↑(List.length s0):Int)) then G (some (ChB_s1 s0 (bOr .u64 (bShl .u64 v3 (8:Int)) (u64.wrap (↑(List.getD s0 v5.toNat (0:UInt8)).toNat:Int))) (i64.wrap (v5+(1:Int))))) else none else H (Ex.exit 0) (some (ChB_o1e0 v3)):=by kernel_rfl
theorem ChB_c1e0 (fu:Nat) (v3:Int):ChB_k1 fu  (Ex.exit 0) (ChB_o1e0 v3)=some (AV.int .u64 v3):=by kernel_rfl
section
variable (T0:Type) (R0:List AV->Option T0) (f0a:T0->List UInt8) (T1:Type) (R1:List AV->Option T1) (f1a:T1->List UInt8)
def g_CTe:Cg:=⟨⟨gam [(nF13,⟨R0,fun t=>AV.str (f0a t)⟩),(nF14,⟨R1,fun t=>AV.str (f1a t)⟩)],[],noE⟩,[]⟩
theorem CTe_ev (fu:Nat) (a b k:Int) (s t:Str):afunc prog fF6 (g_CTe T0 R0 f0a T1 R1 f1a) fu [.c (.mix [.pl (.int .u64 a),.pl (.int .u64 b),.pl (.int .i64 k),.pl (.str s),.pl (.str t)])]=bif decide (k < (1:Int)) then some (AV.tup [.s (.pl (.str [])),.s (.pl (.int .i64 (11:Int)))]) else bif decide ((11:Int) < k) then some (AV.tup [.s (.pl (.str [])),.s (.pl (.int .i64 (11:Int)))]) else bif decide ((64:Int) < (↑(List.length s):Int)) then some (AV.tup [.s (.pl (.str [])),.s (.pl (.int .i64 (5:Int)))]) else bif decide ((255:Int) < (↑(List.length t):Int)) then some (AV.tup [.s (.pl (.str [])),.s (.pl (.int .i64 (5:Int)))]) else (R0 [.int .u64 a]).bind fun t_1=>(R0 [.int .u64 b]).bind fun t_2=>bif decide ((f0a t_1).length+(f0a t_2).length <= 9223372036854775807) then bif decide (List.length (f0a t_1++f0a t_2)+1 <= 9223372036854775807) then (R1 [.s (.dat (.strs ([s]++[t])) 2 1)]).bind fun t=>bif decide (List.length (f0a t_1++f0a t_2++List.map b8 [u8.wrap k])+(f1a t).length <= 9223372036854775807) then some (AV.tup [.s (.pl (.str (f0a t_1++f0a t_2++List.map b8 [u8.wrap k]++f1a t))),.s (.pl (.int .i64 (0:Int)))]) else none else none else none:=by kernel_rfl
end
def g_CCo:Cg:=⟨⟨gam [],[],noE⟩,[]⟩
theorem CCo_ev (fu:Nat) (s:Str):afunc prog fF19 g_CCo fu [.str s]=bif decide ((↑(List.length s):Int) < (2:Int)) then some (AV.tup [.s (.pl (.str [])),.s (.pl (.str [])),.s (.pl (.bool false))]) else bif decide ((0:Int) <= (0:Int) /\ (0:Int) < (↑(List.length s):Int)) then bif decide ((0:Int) <= (1:Int) /\ (1:Int) < (↑(List.length s):Int)) then bif decide ((0:Int) <= (2:Int) /\ (2:Int) <= (↑(List.length s):Int) /\ (↑(List.length s):Int) <= (↑(List.length s):Int)) then bif decide ((↑(sl s (2:Int) (↑(List.length s):Int)).length:Int) < bOr .i64 (bShl .i64 (i64.wrap (↑(List.getD s (Int.toNat (0:Int)) (0:UInt8)).toNat:Int)) (8:Int)) (i64.wrap (↑(List.getD s (Int.toNat (1:Int)) (0:UInt8)).toNat:Int))) then some (AV.tup [.s (.pl (.str [])),.s (.pl (.str [])),.s (.pl (.bool false))]) else bif decide ((0:Int) <= (0:Int) /\ (0:Int) <= bOr .i64 (bShl .i64 (i64.wrap (↑(List.getD s (Int.toNat (0:Int)) (0:UInt8)).toNat:Int)) (8:Int)) (i64.wrap (↑(List.getD s (Int.toNat (1:Int)) (0:UInt8)).toNat:Int)) /\ bOr .i64 (bShl .i64 (i64.wrap (↑(List.getD s (Int.toNat (0:Int)) (0:UInt8)).toNat:Int)) (8:Int)) (i64.wrap (↑(List.getD s (Int.toNat (1:Int)) (0:UInt8)).toNat:Int)) <= (↑(sl s (2:Int) (↑(List.length s):Int)).length:Int)) then bif decide ((0:Int) <= bOr .i64 (bShl .i64 (i64.wrap (↑(List.getD s (Int.toNat (0:Int)) (0:UInt8)).toNat:Int)) (8:Int)) (i64.wrap (↑(List.getD s (Int.toNat (1:Int)) (0:UInt8)).toNat:Int)) /\ bOr .i64 (bShl .i64 (i64.wrap (↑(List.getD s (Int.toNat (0:Int)) (0:UInt8)).toNat:Int)) (8:Int)) (i64.wrap (↑(List.getD s (Int.toNat (1:Int)) (0:UInt8)).toNat:Int)) <= (↑(sl s (2:Int) (↑(List.length s):Int)).length:Int) /\ (↑(sl s (2:Int) (↑(List.length s):Int)).length:Int) <= (↑(sl s (2:Int) (↑(List.length s):Int)).length:Int)) then some (AV.tup [.s (.pl (.str (sl (sl s (2:Int) (↑(List.length s):Int)) (0:Int) (bOr .i64 (bShl .i64 (i64.wrap (↑(List.getD s (Int.toNat (0:Int)) (0:UInt8)).toNat:Int)) (8:Int)) (i64.wrap (↑(List.getD s (Int.toNat (1:Int)) (0:UInt8)).toNat:Int)))))),.s (.pl (.str (sl (sl s (2:Int) (↑(List.length s):Int)) (bOr .i64 (bShl .i64 (i64.wrap (↑(List.getD s (Int.toNat (0:Int)) (0:UInt8)).toNat:Int)) (8:Int)) (i64.wrap (↑(List.getD s (Int.toNat (1:Int)) (0:UInt8)).toNat:Int))) (↑(sl s (2:Int) (↑(List.length s):Int)).length:Int)))),.s (.pl (.bool true))]) else none else none else none else none else none:=by kernel_rfl
section
variable (T0:Type) (R0:List AV->Option T0) (f0a f0b:T0->Str) (f0c:T0->Bool) (T1:Type) (R1:List AV->Option T1) (f1a:T1->Int) (T2:Type) (R2:List AV->Option T2) (f2a:T2->Str) (f2b:T2->Int)
def g_CPa:Cg:=⟨⟨gam [(nF19,⟨R0,fun t=>AV.tup [.s (.pl (.str (f0a t))),.s (.pl (.str (f0b t))),.s (.pl (.bool (f0c t)))]⟩),(nF20,⟨R1,fun t=>AV.int .u64 (f1a t)⟩),(nF6,⟨R2,fun t=>AV.tup [.s (.pl (.str (f2a t))),.s (.pl (.int .i64 (f2b t)))]⟩)],[],noE⟩,[]⟩
theorem CPa_ev (fu:Nat) (s:Str):afunc prog fF15 (g_CPa T0 R0 f0a f0b f0c T1 R1 f1a T2 R2 f2a f2b) fu [.str s]=bif decide ((↑(List.length s):Int) < (17:Int)) then some (AV.tup [.mix [.pl (.int .u64 (0:Int)),.pl (.int .u64 (0:Int)),.pl (.int .i64 (0:Int)),.pl (.str []),.pl (.str [])],.s (.pl (.int .i64 (4:Int)))]) else bif decide ((0:Int) <= (17:Int) /\ (17:Int) <= (↑(List.length s):Int) /\ (↑(List.length s):Int) <= (↑(List.length s):Int)) then (R0 [.str (sl s (17:Int) (↑(List.length s):Int))]).bind fun t=>(R0 [.str (f0b t)]).bind fun t_1=>(R1 [.str s]).bind fun t_2=>bif decide ((0:Int) <= (8:Int) /\ (8:Int) <= (↑(List.length s):Int) /\ (↑(List.length s):Int) <= (↑(List.length s):Int)) then (R1 [.str (sl s (8:Int) (↑(List.length s):Int))]).bind fun t_3=>bif decide ((0:Int) <= (16:Int) /\ (16:Int) < (↑(List.length s):Int)) then (R2 [.c (.mix [.pl (.int .u64 (f1a t_2)),.pl (.int .u64 (f1a t_3)),.pl (.int .i64 (i64.wrap (↑(List.getD s (Int.toNat (16:Int)) (0:UInt8)).toNat:Int))),.pl (.str (([f0a t]++[f0a t_1]).getD 0 [])),.pl (.str (([f0a t]++[f0a t_1]).getD 1 []))])]).bind fun t_4=>bif !f0c t || !f0c t_1 || !decide (f0b t_1=[]) || !decide (f2b t_4=(0:Int)) || !decide (f2a t_4=s) then some (AV.tup [.mix [.pl (.int .u64 (0:Int)),.pl (.int .u64 (0:Int)),.pl (.int .i64 (0:Int)),.pl (.str []),.pl (.str [])],.s (.pl (.int .i64 (4:Int)))]) else some (AV.tup [.mix [.pl (.int .u64 (f1a t_2)),.pl (.int .u64 (f1a t_3)),.pl (.int .i64 (i64.wrap (↑(List.getD s (Int.toNat (16:Int)) (0:UInt8)).toNat:Int))),.pl (.str (([f0a t]++[f0a t_1]).getD 0 [])),.pl (.str (([f0a t]++[f0a t_1]).getD 1 []))],.s (.pl (.int .i64 (0:Int)))]) else none else none else none:=by kernel_rfl
end
section
variable (T0:Type) (R0:List AV->Option T0) (f0a:T0->List UInt8)
def g_CFi:Cg:=⟨⟨gam [(nF16,⟨R0,fun t=>AV.str (f0a t)⟩)],[],noE⟩,[]⟩
theorem CFi_ev (fu:Nat):afunc prog fF10 (g_CFi T0 R0 f0a) fu []=(R0 [.str [(0:UInt8)],.int .i64 (64:Int)]).bind fun t=>some (AV.str (f0a t)):=by kernel_rfl
end
section
variable (T0:Type) (R0:List AV->Option T0) (T1:Type) (R1:List AV->Option T1) (f1a f1b:T1->Int) (T2:Type) (R2:List AV->Option T2) (f2a:T2->Int) (f2b:T2->Str) (f2c f2d f2e:T2->Int) (f2f f2g:T2->Str) (f2h:T2->Int) (T3:Type) (R3:List AV->Option T3) (T4:Type) (R4:List AV->Option T4) (f4a:T4->Int) (T5:Type) (R5:List AV->Option T5) (f5a:T5->List UInt8)
def g_CAw:Cg:=⟨⟨gam [(nF10,⟨R0,fun t=>AV.str (List.replicate 64 0)⟩),(nF8,⟨R1,fun t=>AV.tup [.s (.pl (.int .i64 (f1a t))),.s (.pl (.int .i64 (f1b t)))]⟩),(nF5,⟨R2,fun t=>AV.tup [.mix [.pl (.int .u64 (f2a t)),.pl (.str (f2b t))],.mix [.pl (.int .u64 (f2c t)),.pl (.int .u64 (f2d t)),.pl (.int .i64 (f2e t)),.pl (.str (f2f t)),.pl (.str (f2g t))],.s (.pl (.int .i64 (f2h t)))]⟩),(nF11,⟨R3,fun t=>AV.bool (true)⟩),(nF9,⟨R4,fun t=>AV.int .u64 (f4a t)⟩),(nF7,⟨R5,fun t=>AV.str (f5a t)⟩)],[],noE⟩,[]⟩
theorem CAw_ev (fu:Nat):afunc prog fF4 (g_CAw T0 R0 T1 R1 f1a f1b T2 R2 f2a f2b f2c f2d f2e f2f f2g f2h T3 R3 T4 R4 f4a T5 R5 f5a) fu []=(R0 []).bind fun t=>(R1 [.str (List.replicate 64 (0:UInt8)),.s (.dat (.strs []) 0 1)]).bind fun t=>(R2 [.c (.mix [.pl (.int .u64 (0:Int)),.pl (.str [])]),.int .u64 (5:Int),.int .i64 (1:Int),.str [(97:UInt8)],.str []]).bind fun t_1=>(R3 []).bind fun t_2=>bif decide (f1a t=(0:Int)) && decide (f1b t=(0:Int)) && decide (f2h t_1=(0:Int)) then (R4 [.c (.mix [.pl (.int .u64 (f2a t_1)),.pl (.str (f2b t_1))])]).bind fun t=>bif decide (f4a t=(1:Int)) then (R5 [.c (.mix [.pl (.int .u64 (f2a t_1)),.pl (.str (f2b t_1))])]).bind fun t=>(R0 []).bind fun t_3=>some (AV.bool !decide (f5a t=List.replicate 64 (0:UInt8))) else some (AV.bool false) else some (AV.bool false):=by kernel_rfl
end
section
variable (T0:Type) (R0:List AV->Option T0) (f0a:T0->Str) (f0b:T0->Int) (T1:Type) (R1:List AV->Option T1) (f1a:T1->List UInt8) (T2:Type) (R2:List AV->Option T2) (f2a:T2->List UInt8)
def g_ChA:Cg:=⟨⟨gam [(nF6,⟨R0,fun t=>AV.tup [.s (.pl (.str (f0a t))),.s (.pl (.int .i64 (f0b t)))]⟩),(nF7,⟨R1,fun t=>AV.str (f1a t)⟩),(nF12,⟨R2,fun t=>AV.str (f2a t)⟩)],[],noE⟩,[]⟩
theorem ChA_ev (fu:Nat) (n:Int) (h:Str) (tk k:Int) (s t:Str):afunc prog fF5 (g_ChA T0 R0 f0a f0b T1 R1 f1a T2 R2 f2a) fu [.c (.mix [.pl (.int .u64 n),.pl (.str h)]),.int .u64 tk,.int .i64 k,.str s,.str t]=(R0 [.c (.mix [.pl (.int .u64 n),.pl (.int .u64 tk),.pl (.int .i64 k),.pl (.str (([s]++[t]).getD 0 [])),.pl (.str (([s]++[t]).getD 1 []))])]).bind fun t_1=>bif !decide (f0b t_1=(0:Int)) then some (AV.tup [.mix [.pl (.int .u64 (0:Int)),.pl (.str [])],.mix [.pl (.int .u64 (0:Int)),.pl (.int .u64 (0:Int)),.pl (.int .i64 (0:Int)),.pl (.str []),.pl (.str [])],.s (.pl (.int .i64 (f0b t_1)))]) else (R1 [.c (.mix [.pl (.int .u64 n),.pl (.str h)])]).bind fun t_2=>(R2 [.str (f1a t_2),.str (f0a t_1)]).bind fun t_3=>some (AV.tup [.mix [.pl (.int .u64 (u64.wrap (n+(1:Int)))),.pl (.str (f2a t_3))],.mix [.pl (.int .u64 n),.pl (.int .u64 tk),.pl (.int .i64 k),.pl (.str (([s]++[t]).getD 0 [])),.pl (.str (([s]++[t]).getD 1 []))],.s (.pl (.int .i64 (0:Int)))]):=by kernel_rfl
end
section
variable (T0:Type) (R0:List AV->Option T0)
def g_CHe:Cg:=⟨⟨gam [(nF10,⟨R0,fun t=>AV.str (List.replicate 64 0)⟩)],[],noE⟩,[]⟩
theorem CHe_ev (fu:Nat) (n:Int) (h:Str):afunc prog fF7 (g_CHe T0 R0) fu [.c (.mix [.pl (.int .u64 n),.pl (.str h)])]=bif decide (n=(0:Int)) then (R0 []).bind fun t=>some (AV.str (List.replicate 64 (0:UInt8))) else some (AV.str h):=by kernel_rfl
end
def g_CLe:Cg:=⟨⟨gam [],[],noE⟩,[]⟩
theorem CLe_ev (fu:Nat) (n:Int) (h:Str):afunc prog fF9 g_CLe fu [.c (.mix [.pl (.int .u64 n),.pl (.str h)])]=some (AV.int .u64 n):=by kernel_rfl
section
variable (T0:Type) (R0:List AV->Option T0) (f0a:T0->List Int)
def g_CLi:Cg:=⟨⟨gam [(nF18,⟨R0,fun t=>AV.agg (.ints .u8 (f0a t)) 64⟩)],[],noE⟩,[]⟩
theorem CLi_ev (fu:Nat) (s t:Str):afunc prog fF12 (g_CLi T0 R0 f0a) fu [.str s,.str t]=(R0 [.s (.dat (.strs ([[(79:UInt8),80,65,76]]++([s]++[t]))) 3 1)]).bind fun t=>some (AV.str (List.map b8 (List.take 64 (List.drop 0 (f0a t))))):=by kernel_rfl
end
section
variable (T0:Type) (R0:List AV->Option T0) (T1:Type) (R1:List AV->Option T1) (f1a f1b f1c:T1->Int) (f1d f1e:T1->Str) (f1f:T1->Int) (T2:Type) (R2:List AV->Option T2) (f2a:T2->List UInt8)
def g_CVe:Cg:=⟨⟨gam [(nF10,⟨R0,fun t=>AV.str (List.replicate 64 0)⟩),(nF15,⟨R1,fun t=>AV.tup [.mix [.pl (.int .u64 (f1a t)),.pl (.int .u64 (f1b t)),.pl (.int .i64 (f1c t)),.pl (.str (f1d t)),.pl (.str (f1e t))],.s (.pl (.int .i64 (f1f t)))]⟩),(nF12,⟨R2,fun t=>AV.str (f2a t)⟩)],[],noE⟩,[(4,[0,1,6,12,13,14],[0,1,4,5,6])]⟩
def CVe_s1 (s0:Str) (x1:List Str) (n1:Nat) (s6:List UInt8) (x12:List Str) (n12:Nat) (v13 v14:Int):St:={ tm:=[(0,.str s0),(1,.s (.dat (.strs x1) n1 1)),(6,.str s6),(12,.s (.dat (.strs x12) n12 1)),(13,.int .i64 v13),(14,.int .i64 v14)],hp:=[],nx:=0,sz:=47 }
def CVe_b1:Code:=bodyL (codeAt [1,1,0,1,2] (codeF fF8))
def CVe_k1 (fu:Nat):=kAt prog (g_CVe T0 R0 T1 R1 f1a f1b f1c f1d f1e f1f T2 R2 f2a) fu [1,1,0,1,2] (codeF fF8) (kFin prog fF8)
abbrev CVe_L1 (fu:Nat) (s0:Str) (x1:List Str) (n1:Nat) (s6:List UInt8) (x12:List Str) (n12:Nat) (v13 v14:Int):=lpA prog (g_CVe T0 R0 T1 R1 f1a f1b f1c f1d f1e f1f T2 R2 f2a) fu CVe_b1 (CVe_k1 T0 R0 T1 R1 f1a f1b f1c f1d f1e f1f T2 R2 f2a fu ) fu (some (CVe_s1 s0 x1 n1 s6 x12 n12 v13 v14))
theorem CVe_ev (fu:Nat) (s:Str) (l:List Str) (n:Nat):afunc prog fF8 (g_CVe T0 R0 T1 R1 f1a f1b f1c f1d f1e f1f T2 R2 f2a) fu [.str s,.s (.dat (.strs l) n 1)]=(R0 []).bind fun t=>CVe_L1 T0 R0 T1 R1 f1a f1b f1c f1d f1e f1f T2 R2 f2a fu s l n (List.replicate 64 (0:UInt8)) l n (↑n:Int) (0:Int):=by kernel_rfl
def CVe_o1r (s0:Str) (x1:List Str) (n1:Nat) (v4 v5:Int) (s6:List UInt8):St:={ tm:=[(0,.str s0),(1,.s (.dat (.strs x1) n1 1)),(4,.int .i64 v4),(5,.int .i64 v5),(6,.str s6)],hp:=[],nx:=0,sz:=47 }
def CVe_o1e0 (s0:Str) (x1:List Str) (n1:Nat) (s6:List UInt8):St:={ tm:=[(0,.str s0),(1,.s (.dat (.strs x1) n1 1)),(4,.s SV.junk),(5,.s SV.junk),(6,.str s6)],hp:=[],nx:=0,sz:=47 }
theorem CVe_r1 {β:Type} (fu:Nat) (G:Option St->Option β) (H:Ex->Option St->Option β) (s0:Str) (x1:List Str) (n1:Nat) (s6:List UInt8) (x12:List Str) (n12:Nat) (v13 v14:Int):lpR prog (g_CVe T0 R0 T1 R1 f1a f1b f1c f1d f1e f1f T2 R2 f2a) fu CVe_b1 G H (CVe_s1 s0 x1 n1 s6 x12 n12 v13 v14)=bif decide (v14 < v13) then bif decide ((0:Int) <= v14 /\ v14 < (↑n12:Int)) then (R1 [.str (x12.getD v14.toNat [])]).bind fun t=>bif !decide (f1f t=(0:Int)) then H Ex.ret (some (CVe_o1r s0 x1 n1 v14 (f1f t) s6)) else bif !decide (f1a t=u64.wrap v14) then H Ex.ret (some (CVe_o1r s0 x1 n1 v14 (19:Int) s6)) else (R2 [.str s6,.str (x12.getD v14.toNat [])]).bind fun t=>G (some (CVe_s1 s0 x1 n1 (f2a t) x12 n12 v13 (i64.wrap (v14+(1:Int))))) else none else H (Ex.exit 0) (some (CVe_o1e0 s0 x1 n1 s6)):=by kernel_rfl
theorem CVe_c1r (fu:Nat) (s0:Str) (x1:List Str) (n1:Nat) (v4 v5:Int) (s6:List UInt8):CVe_k1 T0 R0 T1 R1 f1a f1b f1c f1d f1e f1f T2 R2 f2a fu  Ex.ret (CVe_o1r s0 x1 n1 v4 v5 s6)=some (AV.tup [.s (.pl (.int .i64 v4)),.s (.pl (.int .i64 v5))]):=by kernel_rfl
theorem CVe_c1e0 (fu:Nat) (s0:Str) (x1:List Str) (n1:Nat) (s6:List UInt8):CVe_k1 T0 R0 T1 R1 f1a f1b f1c f1d f1e f1f T2 R2 f2a fu  (Ex.exit 0) (CVe_o1e0 s0 x1 n1 s6)=bif !decide (s6=s0) then some (AV.tup [.s (.pl (.int .i64 (↑n1:Int))),.s (.pl (.int .i64 (27:Int)))]) else some (AV.tup [.s (.pl (.int .i64 (↑n1:Int))),.s (.pl (.int .i64 (0:Int)))]):=by kernel_rfl
end
set_option maxRecDepth 4000
abbrev gI_CNu:Cg:=g_CNu 
theorem gok_CNu:CfOk prog gI_CNu.c:=⟨gam_nil,fun _ _ h=>by cases h⟩
theorem CNu_m {β:Type} (fu:Nat) (G:Option St->Option β) (H:Ex->Option St->Option β) (n i:Nat) (hn:n < 18446744073709551616) (hi:i < 8) (m:Nat) (xs:List Int) :
  lpR prog gI_CNu fu CNu_b1 G H (CNu_s1 (n:Int) 8 8 (i:Int) m xs)=G (some (CNu_s1 (n:Int) 8 8 ((i+1:Nat):Int) m (xs.set i ((n / 2 ^ (56 - 8*i)%256:Nat):Int)))):=by
 rw [CNu_r1,decide_eq_true (by omega),cond_true,wi64 (n:=8*(i:Int)) (by omega) (by omega),wi64 (n:=56 - 8*(i:Int)) (by omega) (by omega),decide_eq_false (by omega),cond_false,decide_eq_true (by omega),cond_true,wi64 (by omega) (by omega),
  show (56:Int) - 8*(i:Int)=((56 - 8*i:Nat):Int) by omega,shr64 n _ (by omega),wu8n,Int.toNat_natCast]
 rfl
theorem ok_Num8:CallOk prog nF13 sNum8:=by
 refine afunc_okE (g:=gI_CNu) (fu:=fun _=>9) mixed gok_CNu hF13 (by kernel_rfl) ?_
 intro args t ht
 unfold sNum8 at ht
 simp only at ht
 split at ht
 ·rename_i n
  obtain ⟨h1,h2⟩:=ctrueS ht
  simp only [in64,decide_eq_true_eq] at h1
  obtain ⟨n,rfl⟩:=Int.eq_ofNat_of_zero_le h1.1
  subst h2
  refine (CNu_ev ..).trans ?_
  show lpA prog gI_CNu 9 CNu_b1 _ 9 (some (CNu_s1 (n:Int) 8 8 ((0:Nat):Int) 8 (List.replicate 8 0)))=_
  have hn:n < 18446744073709551616:=by omega
  rw [lpA_succ,CNu_m _ _ _ n 0 hn (by omega),lpA_succ,CNu_m _ _ _ n 1 hn (by omega),lpA_succ,CNu_m _ _ _ n 2 hn (by omega),lpA_succ,CNu_m _ _ _ n 3 hn (by omega),lpA_succ,CNu_m _ _ _ n 4 hn (by omega),lpA_succ,CNu_m _ _ _ n 5 hn (by omega),lpA_succ,CNu_m _ _ _ n 6 hn (by omega),lpA_succ,CNu_m _ _ _ n 7 hn (by omega),
   lpA_succ,CNu_r1,decide_eq_false (by omega),cond_false,kOut_some,CNu_c1e0]
  have e:numF 8 n=List.map b8 [((n / 2 ^ (56 - 8*0)%256:Nat):Int),((n / 2 ^ (56 - 8*1)%256:Nat):Int),((n / 2 ^ (56 - 8*2)%256:Nat):Int),((n / 2 ^ (56 - 8*3)%256:Nat):Int),((n / 2 ^ (56 - 8*4)%256:Nat):Int),((n / 2 ^ (56 - 8*5)%256:Nat):Int),((n / 2 ^ (56 - 8*6)%256:Nat):Int),((n / 2 ^ (56 - 8*7)%256:Nat):Int)]:=by
   simp only [numF,Nat.div_div_eq_div_mul]
   simp
  show _=some (AV.str (numF 8 n))
  rw [e]; rfl
 ·cases ht
theorem run_Num8 {n:Nat} (h:n < 18446744073709551616):rNum8 [.int .u64 (n:Int)]=some (numF 8 n):=by
 simp only [rNum8,sNum8,Int.toNat_natCast]
 have:in64 (n:Int)=true:=decide_eq_true (by omega)
 rw [this]; rfl
theorem numF_len:∀ (k n:Nat),(numF k n).length=k:=by
 intro k
 induction k with
 | zero=>intro n; rfl
 | succ k ih=>intro n; rw [numF,List.length_append,ih]; rfl
theorem valF_snoc:∀ (s:Str) (v:Nat) (c:UInt8),valF v (s++[c])=valF v s*256+c.toNat:=by
 intro s
 induction s with
 | nil=>intro v c; rfl
 | cons x r ih=>intro v c; simp only [List.cons_append,valF]; exact ih _ _
theorem take_snoc (s:Str) (i:Nat) (h:i < s.length):s.take (i+1)=s.take i++[s.getD i 0]:=by
 rw [List.take_add_one,List.getElem?_eq_getElem h,List.getD_eq_getElem?_getD,List.getElem?_eq_getElem h]; rfl
theorem valF_lt:∀ (s:Str) (v:Nat),valF v s < (v+1)*256 ^ s.length:=by
 intro s
 induction s with
 | nil=>intro v; simp [valF]
 | cons x r ih=>
  intro v
  have h:=ih (v*256+x.toNat)
  have hx:=x.toNat_lt
  simp only [valF,List.length_cons,Nat.pow_succ]
  refine Nat.lt_of_lt_of_le h ?_
  rw [Nat.mul_comm (256 ^ r.length) 256,<-Nat.mul_assoc]
  exact Nat.mul_le_mul_right _ (by omega)
theorem valF0_lt {s:Str} {k:Nat} (h:s.length <= k):valF 0 s < 256 ^ k:=by
 have:=valF_lt s 0
 rw [Nat.zero_add,Nat.one_mul] at this
 exact Nat.lt_of_lt_of_le this (Nat.pow_le_pow_right (by decide) h)
theorem sh_or (v c:Nat) (hv:v < 72057594037927936) (hc:c < 256):bOr .u64 (bShl .u64 (v:Int) 8) (u64.wrap (c:Int))=((v*256+c:Nat):Int):=by
 have h8:=shl64 v 8 (by omega)
 rw [show ((8:Nat):Int)=8 from rfl,show (2:Nat) ^ 8=256 from rfl,Nat.mod_eq_of_lt (by omega)] at h8
 have ho:v*256 ||| c=v*256+c:=by
  have:=Nat.two_pow_add_eq_or_of_lt (i:=8) (b:=c) (by omega) v
  rw [show 2 ^ 8*v=v*256 by omega] at this
  exact this.symm
 rw [h8,wu64 (by omega) (by omega),or64 _ _ (by omega) (by omega),ho]
abbrev gI_ChB:Cg:=g_ChB 
theorem gok_ChB:CfOk prog gI_ChB.c:=⟨gam_nil,fun _ _ h=>by cases h⟩
theorem chBa_loop (s:Str) (hs:8 <= s.length) (fu:Nat):∀ (d n i:Nat),i+d=8->d < n ->
  lpA prog gI_ChB fu ChB_b1 (ChB_k1 fu) n (some (ChB_s1 s ((valF 0 (s.take i):Nat):Int) (i:Int)))=some (.int .u64 ((valF 0 (s.take 8):Nat):Int)):=by
 intro d
 induction d with
 | zero=>
  intro n i hi hn
  obtain ⟨n,rfl⟩:=Nat.exists_eq_succ_of_ne_zero (by omega:n ≠ 0)
  have e:i=8:=by omega
  subst e
  rw [lpA_succ,ChB_r1,decide_eq_false (by omega),cond_false,kOut_some,ChB_c1e0]
 | succ d ih=>
  intro n i hi hn
  obtain ⟨n,rfl⟩:=Nat.exists_eq_succ_of_ne_zero (by omega:n ≠ 0)
  have h:=ih n (i+1) (by omega) (by omega)
  have hl:valF 0 (s.take i) < 72057594037927936:=Nat.lt_of_lt_of_le (valF0_lt (k:=7) (by rw [List.length_take]; omega)) (by decide)
  rw [lpA_succ,ChB_r1,decide_eq_true (by omega),cond_true,decide_eq_true (by omega),cond_true,Int.toNat_natCast,sh_or _ _ hl (s.getD i 0).toNat_lt,<-valF_snoc,<-take_snoc s i (by omega),wi64 (by omega) (by omega)]
  exact h
theorem ok_Back:CallOk prog nF20 sBack:=by
 refine afunc_okE (g:=gI_ChB) (fu:=fun _=>9) mixed gok_ChB hF20 (by kernel_rfl) ?_
 intro args t ht
 unfold sBack at ht
 simp only at ht
 split at ht
 ·rename_i s
  obtain ⟨h1,h2⟩:=ctrueS ht
  subst h2
  refine (ChB_ev ..).trans ?_
  exact chBa_loop s (of_decide_eq_true h1) 9 8 9 0 (by omega) (by omega)
 ·cases ht
theorem run_Back {s:Str} (h:8 <= s.length):rBack [.str s]=some (valF 0 (s.take 8)):=by
 simp only [rBack,sBack]
 rw [decide_eq_true h]; rfl
theorem runE_ok {T:Type} {F:En->T} {args:List AV} {t:T} (h:runE F args=some t):∃ e:En,args=[.c (.mix (eEn e))] /\ e.seq < 18446744073709551616 /\ e.tick < 18446744073709551616 /\ t=F e:=by
 unfold runE at h
 split at h
 ·rename_i a b k s u
  obtain ⟨h1,h2⟩:=ctrueS h
  simp only [Bool.and_eq_true,in64,decide_eq_true_eq] at h1
  obtain ⟨⟨a0,a1⟩,b0,b1⟩:=h1
  obtain ⟨a,rfl⟩:=Int.eq_ofNat_of_zero_le a0
  obtain ⟨b,rfl⟩:=Int.eq_ofNat_of_zero_le b0
  exact ⟨⟨a,b,k,s,u⟩,rfl,by simp only; omega,by simp only; omega,h2.symm⟩
 ·cases h
theorem run_E {T:Type} (F:En->T) {e:En} (h1:e.seq < 18446744073709551616) (h2:e.tick < 18446744073709551616):runE F [.c (.mix (eEn e))]=some (F e):=by
 simp only [runE,eEn,Int.toNat_natCast]
 have a:in64 (e.seq:Int)=true:=decide_eq_true (by omega)
 have b:in64 (e.tick:Int)=true:=decide_eq_true (by omega)
 rw [a,b]; rfl
theorem run_TextE {e:En} (h1:e.seq < 18446744073709551616) (h2:e.tick < 18446744073709551616):rTextE [.c (.mix (eEn e))]=some (textE e):=by
 simp only [rTextE,sTextE]
 exact run_E textE h1 h2
theorem kind8 {k:Int} (h1:¬ k < 1) (h2:¬ 11 < k):u8.wrap k=k:=by
 obtain ⟨n,rfl⟩:=Int.eq_ofNat_of_zero_le (by omega:0 <= k)
 rw [wu8n,Nat.mod_eq_of_lt (by omega)]
abbrev gI_CTe:Cg:=g_CTe (List UInt8) rNum8 (fun t=>t) (List UInt8) rCounted (fun t=>t)
theorem gok_CTe:CfOk prog gI_CTe.c:=⟨gam_cons ok_Num8 <| gam_cons ok_Counted <| gam_nil,fun _ _ h=>by cases h⟩
theorem ok_TextE:CallOk prog nF6 sTextE:=by
 refine afunc_okE (g:=gI_CTe) (fu:=fun _=>0) mixed gok_CTe hF6 (by kernel_rfl) ?_
 intro args t ht
 obtain ⟨e,rfl,ha,hb,rfl⟩:=runE_ok (F:=textE) ht
 refine (CTe_ev ..).trans ?_
 show _=some (AV.tup [CV.s (SV.pl (Pl.str (textE e).1)),CV.s (SV.pl (Pl.int i64 (textE e).2))])
 by_cases c1:e.kind < 1
 ·rw [decide_eq_true c1,cond_true,textE,if_pos (.inl c1)]
 by_cases c2:11 < e.kind
 ·rw [decide_eq_false c1,cond_false,decide_eq_true c2,cond_true,textE,if_pos (.inr c2)]
 by_cases c3:64 < e.name.length
 ·rw [decide_eq_false c1,cond_false,decide_eq_false c2,cond_false,decide_eq_true (by omega),cond_true,textE,if_neg (by omega),if_pos (.inl c3)]
 by_cases c4:255 < e.note.length
 ·rw [decide_eq_false c1,cond_false,decide_eq_false c2,cond_false,decide_eq_false (by omega),cond_false,decide_eq_true (by omega),cond_true,textE,if_neg (by omega),if_pos (.inr c4)]
 have hc:(cntL [e.name,e.note]).length <= 1000:=by simp [cntL,pre2_len]; omega
 have r:=run_Counted (ss:=[e.name,e.note]) (n:=2) rfl (by simp) (by omega)
 have l1:=numF_len 8 e.seq
 have l2:=numF_len 8 e.tick
 rw [decide_eq_false c1,cond_false,decide_eq_false c2,cond_false,decide_eq_false (by omega),cond_false,decide_eq_false (by omega),cond_false,run_Num8 ha,Option.bind_some,run_Num8 hb,Option.bind_some,l1,l2,decide_eq_true (by omega),cond_true,decide_eq_true (by rw [List.length_append]; omega),cond_true]
 refine (congrArg (fun o=>Option.bind o _) r).trans ?_
 rw [Option.bind_some,decide_eq_true (by simp only [List.length_append,List.length_map,List.length_singleton]; omega),cond_true,kind8 c1 c2,textE,if_neg (by omega),if_neg (by omega)]
 rfl
theorem slN (t:Str) (a b:Nat):sl t (a:Int) (b:Int)=(t.drop a).take (b - a):=by
 unfold sl
 rw [Int.toNat_natCast,show ((b:Int) - (a:Int)).toNat=b - a by omega]
theorem sl_end (t:Str) (a:Nat) (h:a <= t.length):sl t (a:Int) (t.length:Int)=t.drop a:=by
 rw [slN,List.take_of_length_le (by rw [List.length_drop]; omega)]
theorem sh_orI (v c:Nat) (hv:v < 256) (hc:c < 256):bOr .i64 (bShl .i64 (i64.wrap (v:Int)) 8) (i64.wrap (c:Int))=((256*v+c:Nat):Int):=by
 have:∀ (x:Fin 256) ,bShl .i64 (i64.wrap (x.1:Int)) 8=((256*x.1:Nat):Int):=by decide +kernel
 rw [this ⟨v,hv⟩,wi64 (by omega) (by omega)]
 unfold bOr
 have e:(BitVec.ofInt (IntKind.bits .i64) ((256*v:Nat):Int) ||| BitVec.ofInt (IntKind.bits .i64) (c:Int)).toNat=256*v+c:=by
  show (BitVec.ofInt 64 ((256*v:Nat):Int) ||| BitVec.ofInt 64 (c:Int)).toNat=_
  rw [BitVec.toNat_or,bv64 _ (by omega),bv64 _ (by omega)]
  have:=Nat.two_pow_add_eq_or_of_lt (i:=8) (b:=c) (by omega) v
  rw [show 2 ^ 8*v=256*v by omega] at this
  exact this.symm
 rw [e,wi64 (by omega) (by omega)]
abbrev gI_CCo:Cg:=g_CCo 
theorem gok_CCo:CfOk prog gI_CCo.c:=⟨gam_nil,fun _ _ h=>by cases h⟩
theorem ok_Cut1:CallOk prog nF19 sCut1:=by
 refine afunc_okE (g:=gI_CCo) (fu:=fun _=>0) mixed gok_CCo hF19 (by kernel_rfl) ?_
 intro args t ht
 unfold sCut1 at ht
 simp only at ht
 split at ht
 ·rename_i s
  obtain ⟨h1,h2⟩:=ctrueS ht
  have h1:=of_decide_eq_true h1
  subst h2
  refine (CCo_ev ..).trans ?_
  show _=some (AV.tup [CV.s (SV.pl (Pl.str (cut1 s).1)),CV.s (SV.pl (Pl.str (cut1 s).2.1)),CV.s (SV.pl (Pl.bool (cut1 s).2.2))])
  by_cases c1:s.length < 2
  ·rw [decide_eq_true (by omega),cond_true,cut1,if_pos c1]
  have hx:=(s.getD 0 0).toNat_lt
  have hy:=(s.getD 1 0).toNat_lt
  have e2:=sl_end s 2 (by omega)
  rw [show ((2:Nat):Int)=2 from rfl] at e2
  have el:(s.drop 2).length=s.length - 2:=List.length_drop
  rw [decide_eq_false (by omega),cond_false,decide_eq_true (by omega),cond_true,decide_eq_true (by omega),cond_true,decide_eq_true (by omega),cond_true,show (Int.toNat (0:Int))=0 from rfl,show (Int.toNat (1:Int))=1 from rfl,sh_orI _ _ hx hy,e2,el]
  generalize hn:256*(s.getD 0 0).toNat+(s.getD 1 0).toNat=n at *
  by_cases c2:s.length - 2 < n
  ·rw [decide_eq_true (by omega),cond_true,cut1,if_neg c1,hn,if_pos c2]
  have e3:sl (s.drop 2) 0 (n:Int)=(s.drop 2).take n:=by
   have:=slN (s.drop 2) 0 n
   rwa [List.drop_zero,Nat.sub_zero] at this
  have e4:sl (s.drop 2) (n:Int) ((s.length - 2:Nat):Int)=(s.drop 2).drop n:=by
   rw [<-el]; exact sl_end _ _ (by omega)
  rw [decide_eq_false (by omega),cond_false,decide_eq_true (by omega),cond_true,decide_eq_true (by omega),cond_true,e3,e4,cut1,if_neg c1,hn,if_neg c2]
 ·cases ht
theorem run_Cut1 {s:Str} (h:s.length <= 1099511627776):rCut1 [.str s]=some (cut1 s):=by
 simp only [rCut1,sCut1]
 rw [decide_eq_true h]; rfl
set_option maxRecDepth 4000
theorem pre_get {n:Nat} (h:n < 65536) (x:Str):256*((pre2 n++x).getD 0 0).toNat+((pre2 n++x).getD 1 0).toNat=n:=by
 show 256*(b8 ((n / 256%256:Nat):Int)).toNat+(b8 ((n%256:Nat):Int)).toNat=n
 rw [b8_toNat _ (Nat.mod_lt _ (by decide)),b8_toNat _ (Nat.mod_lt _ (by decide))]
 omega
theorem cut_pre {s x:Str} (h:s.length < 65536):cut1 (pre2 s.length++(s++x))=(s,x,true):=by
 have hg:=pre_get h (s++x)
 have hl:(pre2 s.length++(s++x)).length=2+(s.length+x.length):=by rw [List.length_append,List.length_append,pre2_len]
 have hd:(pre2 s.length++(s++x)).drop 2=s++x:=List.drop_left' (pre2_len _)
 rw [cut1,if_neg (by omega),hg,if_neg (by omega),hd,List.take_left' rfl,List.drop_left' rfl]
theorem dec_cut {A s t:Str} (hA:A.length=17) (hs:s.length <= 64) (ht:t.length <= 255) :
  cut1 ((A++(pre2 s.length++(s++(pre2 t.length++t)))).drop 17)=(s,pre2 t.length++t,true) /\ cut1 (pre2 t.length++t)=(t,[],true):=by
 rw [List.drop_left' hA]
 refine ⟨cut_pre (by omega),?_⟩
 have:=cut_pre (s:=t) (x:=[]) (by omega)
 rwa [List.append_nil] at this
theorem parE_lt (u:Str):(parE u).1.seq < 18446744073709551616 /\ (parE u).1.tick < 18446744073709551616:=by
 unfold parE
 split
 ·exact ⟨by decide,by decide⟩
 ·simp only
  split
  ·exact ⟨Nat.lt_of_lt_of_le (valF0_lt (k:=8) (by rw [List.length_take]; omega)) (by decide),Nat.lt_of_lt_of_le (valF0_lt (k:=8) (by rw [List.length_take]; omega)) (by decide)⟩
  ·exact ⟨by decide,by decide⟩
abbrev gI_CPa:Cg:=g_CPa (Str × Str × Bool) rCut1 (fun t=>t.fst) (fun t=>t.snd.fst) (fun t=>t.snd.2) (Nat) rBack (fun t=>↑t) (Str × Int) rTextE (fun t=>t.fst) (fun t=>t.snd)
theorem gok_CPa:CfOk prog gI_CPa.c:=⟨gam_cons ok_Cut1 <| gam_cons ok_Back <| gam_cons ok_TextE <| gam_nil,fun _ _ h=>by cases h⟩
theorem cut_len (s:Str):(cut1 s).2.1.length <= s.length:=by
 unfold cut1
 split
 ·simp
 ·split
  ·simp
  ·simp only [List.length_drop]; omega
theorem ok_ParE:CallOk prog nF15 sParE:=by
 refine afunc_okE (g:=gI_CPa) (fu:=fun _=>0) mixed gok_CPa hF15 (by kernel_rfl) ?_
 intro args t ht
 unfold sParE at ht
 simp only at ht
 split at ht
 ·rename_i s
  obtain ⟨h1,h2⟩:=ctrueS ht
  have h1:=of_decide_eq_true h1
  subst h2
  refine (CPa_ev ..).trans ?_
  show _=some (AV.tup [CV.mix (eEn (parE s).1),CV.s (SV.pl (Pl.int i64 (parE s).2))])
  by_cases c:s.length < 17
  ·rw [decide_eq_true (by omega),cond_true,parE,if_pos c]; rfl
  have e17:=sl_end s 17 (by omega)
  have e8:=sl_end s 8 (by omega)
  rw [show ((17:Nat):Int)=17 from rfl] at e17
  rw [show ((8:Nat):Int)=8 from rfl] at e8
  have l17:(s.drop 17).length <= 1099511627776:=by rw [List.length_drop]; omega
  have hk:=(s.getD 16 0).toNat_lt
  have p1:=run_Cut1 l17
  have p2:=run_Cut1 (Nat.le_trans (cut_len (s.drop 17)) l17)
  have a1:valF 0 (s.take 8) < 18446744073709551616:=Nat.lt_of_lt_of_le (valF0_lt (k:=8) (by rw [List.length_take]; omega)) (by decide)
  have a2:valF 0 ((s.drop 8).take 8) < 18446744073709551616:=Nat.lt_of_lt_of_le (valF0_lt (k:=8) (by rw [List.length_take]; omega)) (by decide)
  have tx:=run_TextE (e:=⟨valF 0 (s.take 8),valF 0 ((s.drop 8).take 8),((s.getD 16 0).toNat:Int),(cut1 (s.drop 17)).1,(cut1 (cut1 (s.drop 17)).2.1).1⟩) a1 a2
  simp only [eEn] at tx
  rw [decide_eq_false (by omega),cond_false,decide_eq_true (by omega),cond_true,e17,p1,Option.bind_some,p2,Option.bind_some,run_Back (by omega),Option.bind_some,decide_eq_true (by omega),cond_true,e8,run_Back (by rw [List.length_drop]; omega),Option.bind_some,decide_eq_true (by omega),cond_true,show (Int.toNat (16:Int))=16 from rfl,wi64 (by omega) (by omega)]
  refine (congrArg (fun o=>Option.bind o _) tx).trans ?_
  rw [Option.bind_some,parE,if_neg c]
  simp only
  generalize hE:textE _=E
  obtain ⟨E1,E2⟩:=E
  by_cases g:(cut1 (s.drop 17)).2.2=true /\ (cut1 (cut1 (s.drop 17)).2.1).2.2=true /\ (cut1 (cut1 (s.drop 17)).2.1).2.1=[] /\ (E1,E2)=(s,(0:Int))
  ·obtain ⟨g1,g2,g3,g4⟩:=g
   cases g4
   rw [if_pos ⟨g1,g2,g3,rfl⟩,g1,g2,decide_eq_true g3,decide_eq_true (rfl:(0:Int)=0),decide_eq_true (rfl:s=s)]
   rfl
  ·rw [if_neg g]
   have:(!(cut1 (s.drop 17)).2.2 || !(cut1 (cut1 (s.drop 17)).2.1).2.2 || !decide ((cut1 (cut1 (s.drop 17)).2.1).2.1=[]) || !decide (E2=(0:Int)) || !decide (E1=s))=true:=by
    cases q:(!(cut1 (s.drop 17)).2.2 || !(cut1 (cut1 (s.drop 17)).2.1).2.2 || !decide ((cut1 (cut1 (s.drop 17)).2.1).2.1=[]) || !decide (E2=(0:Int)) || !decide (E1=s))
    ·exfalso
     apply g
     simp at q
     obtain ⟨⟨⟨⟨q1,q2⟩,q3⟩,q4⟩,q5⟩:=q
     exact ⟨q1,q2,q3,by rw [q4,q5]⟩
    ·rfl
   rw [this,cond_true]
   rfl
 ·cases ht
theorem run_ParE {s:Str} (h:s.length <= 1099511627776):rParE [.str s]=some (parE s):=by
 simp only [rParE,sParE]
 rw [decide_eq_true h]; rfl
abbrev gI_CFi:Cg:=g_CFi (List UInt8) rRepeat (fun t=>t)
theorem gok_CFi:CfOk prog gI_CFi.c:=⟨gam_cons ok_Repeat <| gam_nil,fun _ _ h=>by cases h⟩
theorem ok_First:CallOk prog nF10 sFirst:=by
 refine afunc_okE (g:=gI_CFi) (fu:=fun _=>0) mixed gok_CFi hF10 (by kernel_rfl) ?_
 intro args t ht
 unfold sFirst at ht
 simp only at ht
 split at ht
 ·refine (CFi_ev ..).trans ?_
  have:=run_Repeat [0] 64 (by decide) (by decide)
  rw [show ((64:Nat):Int)=64 from rfl] at this
  rw [this]; rfl
 ·cases ht
abbrev gI_CHe:Cg:=g_CHe (PUnit) rFirst
theorem gok_CHe:CfOk prog gI_CHe.c:=⟨gam_cons ok_First <| gam_nil,fun _ _ h=>by cases h⟩
theorem ok_Head:CallOk prog nF7 sHead:=by
 refine afunc_okE (g:=gI_CHe) (fu:=fun _=>0) mixed gok_CHe hF7 (by kernel_rfl) ?_
 intro args t ht
 unfold sHead at ht
 simp only at ht
 split at ht
 ·rename_i n h
  obtain ⟨h1,h2⟩:=ctrueS ht
  simp only [in64,decide_eq_true_eq] at h1
  obtain ⟨n,rfl⟩:=Int.eq_ofNat_of_zero_le h1.1
  subst h2
  refine (CHe_ev ..).trans ?_
  show _=some (AV.str (headF n h))
  by_cases c:n=0
  ·rw [decide_eq_true (by omega),cond_true,headF,if_pos c]; rfl
  ·rw [decide_eq_false (by omega),cond_false,headF,if_neg c]
 ·cases ht
abbrev gI_CLe:Cg:=g_CLe 
theorem gok_CLe:CfOk prog gI_CLe.c:=⟨gam_nil,fun _ _ h=>by cases h⟩
theorem ok_Len1:CallOk prog nF9 sLen1:=by
 refine afunc_okE (g:=gI_CLe) (fu:=fun _=>0) mixed gok_CLe hF9 (by kernel_rfl) ?_
 intro args t ht
 unfold sLen1 at ht
 simp only at ht
 split at ht
 ·cases ht
  exact CLe_ev ..
 ·cases ht
abbrev gI_CLi:Cg:=g_CLi (List Nat) rSum (fun t=>up t)
theorem gok_CLi:CfOk prog gI_CLi.c:=⟨gam_cons ok_Sum <| gam_nil,fun _ _ h=>by cases h⟩
theorem ok_Link:CallOk prog nF12 sLink:=by
 refine afunc_okE (g:=gI_CLi) (fu:=fun _=>0) mixed gok_CLi hF12 (by kernel_rfl) ?_
 intro args t ht
 unfold sLink at ht
 simp only at ht
 split at ht
 ·rename_i s t
  obtain ⟨h1,h2⟩:=ctrueS ht
  rw [Bool.and_eq_true] at h1
  have l1:=of_decide_eq_true h1.1
  have l2:=of_decide_eq_true h1.2
  subst h2
  refine (CLi_ev ..).trans ?_
  have hj:Lib.join [[79,80,65,76],s,t] []=[79,80,65,76]++s++t:=by
   simp [Lib.join_cons,Lib.joinTail]
  have r:=run_Sum (ss:=[[79,80,65,76],s,t]) (n:=3) (okSum_of rfl (by simp) (by rw [hj]; simp only [List.length_append,List.length_cons,List.length_nil]; omega))
  rw [hj] at r
  refine (congrArg (fun o=>Option.bind o _) r).trans ?_
  rw [Option.bind_some,List.drop_zero,List.take_of_length_le (by rw [up_len,sumB_len]; omega)]
  rfl
 ·cases ht
theorem run_Link {s t:Str} (h1:s.length <= 1099511627) (h2:t.length <= 1099511627):rLink [.str s,.str t]=some (linkF s t):=by
 simp only [rLink,sLink]
 rw [decide_eq_true h1,decide_eq_true h2]; rfl
theorem run_Head {n:Nat} {h:Str} (hn:n < 18446744073709551616):rHead [.c (.mix [.pl (.int .u64 (n:Int)),.pl (.str h)])]=some (headF n h):=by
 simp only [rHead,sHead,Int.toNat_natCast]
 have:in64 (n:Int)=true:=decide_eq_true (by omega)
 rw [this]; rfl
theorem text_len (e:En):(textE e).1.length <= 1000:=by
 unfold textE
 split
 ·simp
 ·split
  ·simp
  ·rename_i c1 c2
   simp only [List.length_append,numF_len,cntL,pre2_len,List.length_cons,List.length_nil]
   omega
theorem head_len {n:Nat} {h:Str} (hh:h.length <= 1099511627):(headF n h).length <= 1099511627:=by
 unfold headF
 split
 ·simp
 ·exact hh
abbrev gI_ChA:Cg:=g_ChA (Str × Int) rTextE (fun t=>t.fst) (fun t=>t.snd) (List UInt8) rHead (fun t=>t) (List UInt8) rLink (fun t=>t)
theorem gok_ChA:CfOk prog gI_ChA.c:=⟨gam_cons ok_TextE <| gam_cons ok_Head <| gam_cons ok_Link <| gam_nil,fun _ _ h=>by cases h⟩
theorem ok_AddC:CallOk prog nF5 sAddC:=by
 refine afunc_okE (g:=gI_ChA) (fu:=fun _=>0) mixed gok_ChA hF5 (by kernel_rfl) ?_
 intro args t ht
 unfold sAddC at ht
 simp only at ht
 split at ht
 ·rename_i n h tk k s u
  obtain ⟨h1,h2⟩:=ctrueS ht
  simp only [Bool.and_eq_true,in64,decide_eq_true_eq] at h1
  obtain ⟨⟨⟨a0,a1⟩,b0,b1⟩,hl⟩:=h1
  obtain ⟨n,rfl⟩:=Int.eq_ofNat_of_zero_le a0
  obtain ⟨tk,rfl⟩:=Int.eq_ofNat_of_zero_le b0
  simp only [Int.toNat_natCast] at h2
  subst h2
  refine (ChA_ev ..).trans ?_
  have tx:=run_TextE (e:=⟨n,tk,k,s,u⟩) (by simp only; omega) (by simp only; omega)
  simp only [eEn] at tx
  refine (congrArg (fun o=>Option.bind o _) tx).trans ?_
  rw [Option.bind_some]
  show _=some (sAddC.enc (addC n h ⟨n,tk,k,s,u⟩))
  have ht:=text_len ⟨n,tk,k,s,u⟩
  rw [addC]
  by_cases c:(textE ⟨n,tk,k,s,u⟩).2=0
  ·rw [decide_eq_true c,Bool.not_true,cond_false,run_Head (by omega),Option.bind_some,run_Link (head_len hl) (by omega),Option.bind_some,if_pos c,show (n:Int)+1=((n+1:Nat):Int) by omega,wu64n]
   rfl
  ·rw [decide_eq_false c,Bool.not_false,cond_true,if_neg c]
   rfl
 ·cases ht
abbrev gI_CVe:Cg:=g_CVe (PUnit) rFirst (En × Int) rParE (fun t=>↑t.fst.seq) (fun t=>↑t.fst.tick) (fun t=>t.fst.kind) (fun t=>t.fst.name) (fun t=>t.fst.note) (fun t=>t.snd) (List UInt8) rLink (fun t=>t)
theorem gok_CVe:CfOk prog gI_CVe.c:=⟨gam_cons ok_First <| gam_cons ok_ParE <| gam_cons ok_Link <| gam_nil,fun _ _ h=>by cases h⟩
theorem ok_Ver0:CallOk prog nF8 sVer0:=by
 refine afunc_okE (g:=gI_CVe) (fu:=fun _=>1) mixed gok_CVe hF8 (by kernel_rfl) ?_
 intro args t ht
 unfold sVer0 at ht
 simp only at ht
 split at ht
 ·rename_i s
  cases ht
  refine (CVe_ev ..).trans ?_
  rw [show rFirst []=some () from rfl,Option.bind_some]
  show lpA prog gI_CVe 1 CVe_b1 _ 1 (some _)=_
  rw [lpA_succ,CVe_r1,decide_eq_false (by decide),cond_false,kOut_some,CVe_c1e0]
  by_cases c:List.replicate 64 (0:UInt8)=s
  ·rw [decide_eq_true c]; rfl
  ·rw [decide_eq_false c]; rfl
 ·cases ht
abbrev gI_CAw:Cg:=g_CAw (PUnit) rFirst (Int × Int) rVer0 (fun t=>t.fst) (fun t=>t.snd) (Nat × Str × En × Int) rAddC (fun t=>↑t.fst) (fun t=>t.snd.fst) (fun t=>↑t.snd.snd.fst.seq) (fun t=>↑t.snd.snd.fst.tick) (fun t=>t.snd.snd.fst.kind) (fun t=>t.snd.snd.fst.name) (fun t=>t.snd.snd.fst.note) (fun t=>t.snd.snd.snd) (PUnit) rTrue (Int) rLen1 (fun t=>t) (List UInt8) rHead (fun t=>t)
theorem gok_CAw:CfOk prog gI_CAw.c:=⟨gam_cons ok_First <| gam_cons ok_Ver0 <| gam_cons ok_AddC <| gam_cons ok_Awake02 <| gam_cons ok_Len1 <| gam_cons ok_Head <| gam_nil,fun _ _ h=>by cases h⟩
theorem aw_link:decide (linkF (headF 0 []) (textE ⟨0,5,1,[97],[]⟩).1=List.replicate 64 (0:UInt8))=false:=by decide +kernel
theorem aw_addC:addC 0 [] ⟨0,5,1,[97],[]⟩=(1,linkF (headF 0 []) (textE ⟨0,5,1,[97],[]⟩).1,⟨0,5,1,[97],[]⟩,0):=rfl
theorem ok_awake19:CallOk prog nF4 sTrue:=by
 refine afunc_okE (g:=gI_CAw) (fu:=fun _=>0) mixed gok_CAw hF4 (by kernel_rfl) ?_
 intro args t ht
 unfold sTrue at ht
 simp only at ht
 split at ht
 ·refine (CAw_ev ..).trans ?_
  have v0:rVer0 [AV.str (List.replicate 64 0),AV.s (SV.dat (TRow.strs []) 0 1)]=some (0,0):=by
   simp [rVer0,sVer0]
  have a0:rAddC [AV.c (CV.mix [SV.pl (Pl.int u64 0),SV.pl (Pl.str [])]),AV.int u64 5,AV.int i64 1,AV.str [97],AV.str []]=some (addC 0 [] ⟨0,5,1,[97],[]⟩):=rfl
  have h0:=run_Head (n:=1) (h:=linkF (headF 0 []) (textE ⟨0,5,1,[97],[]⟩).1) (by decide)
  rw [show ((1:Nat):Int)=1 from rfl] at h0
  have l0:rLen1 [AV.c (CV.mix [SV.pl (Pl.int u64 1),SV.pl (Pl.str (linkF (headF 0 []) (textE ⟨0,5,1,[97],[]⟩).1))])]=some 1:=rfl
  rw [show rFirst []=some () from rfl,Option.bind_some,v0,Option.bind_some,a0,Option.bind_some,show rTrue []=some () from rfl,Option.bind_some,aw_addC]
  dsimp only
  rw [decide_eq_true (rfl:(0:Int)=0),Bool.and_self,Bool.and_self,cond_true]
  refine (congrArg (fun o=>Option.bind o _) l0).trans ?_
  rw [Option.bind_some,decide_eq_true (rfl:(1:Int)=1),cond_true]
  refine (congrArg (fun o=>Option.bind o _) h0).trans ?_
  rw [Option.bind_some,Option.bind_some]
  show some (AV.bool !decide (linkF (headF 0 []) (textE ⟨0,5,1,[97],[]⟩).1=List.replicate 64 0))=_
  rw [aw_link]; rfl
 ·cases ht
end
end Go.Eng
