import Derived.Test.YteipjabipehbpaaGreatZC2
import Derived.Test.YteipjabipehbpaaGreatZF4
import Derived.Test.YteipjabipehbpaaGreatZF9
namespace Go.Eng
noncomputable section
open Go Go.Proofs
set_option linter.all false
section
variable (T0:Type) (R0:List AV->Option T0) (f0a f0b f0c f0d f0e:T0->Int)
def g_CD:Cg:=⟨⟨gam [(nF84,⟨R0,fun t=>AV.agg (.ints .u64 [(f0a t),(f0b t),(f0c t),(f0d t),(f0e t)]) 5⟩)],[],noE⟩,[]⟩
theorem CD_ev (fu:Nat):afunc prog fF36 (g_CD T0 R0 f0a f0b f0c f0d f0e) fu []=(R0 [.str ([(51:UInt8),55,48,57,53,55,48,53,57,51,52,54,54,57,52,51,57,51,52,51,49,51,56,48,56,51,53,48,56,55,53,52,53,54,53,49,56,57].append [(53:UInt8),52,50,49,49,51,56,55,57,56,52,51,50,49,57,48,49,54,51,56,56,55,56,53,53,51,51,48,56,53,57,52,48,50,56,51,53,53,53])]).bind fun t=>some (AV.agg (.ints .u64 [f0a t,f0b t,f0c t,f0d t,f0e t]) 5):=by kernel_rfl
end
section
variable (T0:Type) (R0:List AV->Option T0) (f0a f0b f0c f0d f0e:T0->Int) (T1:Type) (R1:List AV->Option T1) (f1a f1b f1c f1d f1e:T1->Int)
def g_CPl:Cg:=⟨⟨gam [(nF35,⟨R0,fun t=>AV.agg (.ints .u64 [(f0a t),(f0b t),(f0c t),(f0d t),(f0e t)]) 5⟩),(nF39,⟨R1,fun t=>AV.agg (.ints .u64 [(f1a t),(f1b t),(f1c t),(f1d t),(f1e t)]) 5⟩)],[],noE⟩,[]⟩
theorem CPl_ev (fu:Nat) (a b c d e f g h i j:Int):afunc prog fF111 (g_CPl T0 R0 f0a f0b f0c f0d f0e T1 R1 f1a f1b f1c f1d f1e) fu [.agg (.ints .u64 [a,b,c,d,e]) 5,.agg (.ints .u64 [f,g,h,i,j]) 5]=(R0 [.int .u64 (1:Int)]).bind fun t=>(R1 [.agg (.ints .u64 [a,b,c,d,e]) 5,.agg (.ints .u64 [f,g,h,i,j]) 5]).bind fun t_1=>some (AV.agg (.ints .u64 ([a,b,c,d,e]++([f,g,h,i,j]++([f0a t,f0b t,f0c t,f0d t,f0e t]++[f1a t_1,f1b t_1,f1c t_1,f1d t_1,f1e t_1])))) 20):=by kernel_rfl
end
section
variable (T0:Type) (R0:List AV->Option T0) (f0a f0b f0c f0d f0e:T0->Int) (T1:Type) (R1:List AV->Option T1) (f1a:T1->List Int)
def g_CNe:Cg:=⟨⟨gam [(nF35,⟨R0,fun t=>AV.agg (.ints .u64 [(f0a t),(f0b t),(f0c t),(f0d t),(f0e t)]) 5⟩),(nF111,⟨R1,fun t=>AV.agg (.ints .u64 (f1a t)) 20⟩)],[],noE⟩,[]⟩
theorem CNe_ev (fu:Nat):afunc prog fF98 (g_CNe T0 R0 f0a f0b f0c f0d f0e T1 R1 f1a) fu []=(R0 [.int .u64 (0:Int)]).bind fun t=>(R0 [.int .u64 (1:Int)]).bind fun t_1=>(R1 [.agg (.ints .u64 [f0a t,f0b t,f0c t,f0d t,f0e t]) 5,.agg (.ints .u64 [f0a t_1,f0b t_1,f0c t_1,f0d t_1,f0e t_1]) 5]).bind fun t=>some (AV.agg (.ints .u64 (f1a t)) 20):=by kernel_rfl
end
section
variable (T0:Type) (R0:List AV->Option T0) (f0a f0b f0c f0d f0e:T0->Int) (T1:Type) (R1:List AV->Option T1) (f1a f1b f1c f1d f1e:T1->Int) (T2:Type) (R2:List AV->Option T2) (f2a f2b f2c f2d f2e:T2->Int) (T3:Type) (R3:List AV->Option T3) (f3a f3b f3c f3d f3e:T3->Int) (T4:Type) (R4:List AV->Option T4) (f4a f4b f4c f4d f4e:T4->Int) (T5:Type) (R5:List AV->Option T5) (T6:Type) (R6:List AV->Option T6) (f6a f6b f6c f6d f6e:T6->Int) (T7:Type) (R7:List AV->Option T7) (f7a f7b f7c f7d f7e:T7->Int) (f7f:T7->Bool) (T8:Type) (R8:List AV->Option T8) (f8a:T8->List Int)
def g_CBa:Cg:=⟨⟨gam [(nF35,⟨R0,fun t=>AV.agg (.ints .u64 [(f0a t),(f0b t),(f0c t),(f0d t),(f0e t)]) 5⟩),(nF110,⟨R1,fun t=>AV.agg (.ints .u64 [(f1a t),(f1b t),(f1c t),(f1d t),(f1e t)]) 5⟩),(nF39,⟨R2,fun t=>AV.agg (.ints .u64 [(f2a t),(f2b t),(f2c t),(f2d t),(f2e t)]) 5⟩),(nF40,⟨R3,fun t=>AV.agg (.ints .u64 [(f3a t),(f3b t),(f3c t),(f3d t),(f3e t)]) 5⟩),(nF44,⟨R4,fun t=>AV.agg (.ints .u64 [(f4a t),(f4b t),(f4c t),(f4d t),(f4e t)]) 5⟩),(nF36,⟨R5,fun t=>AV.agg (.ints .u64 ([929955233495203,466365720129213,1662059464998953,2033849074728123,1442794654840575])) 5⟩),(nF41,⟨R6,fun t=>AV.agg (.ints .u64 [(f6a t),(f6b t),(f6c t),(f6d t),(f6e t)]) 5⟩),(nF45,⟨R7,fun t=>AV.tup [.s (.pl (.agg (.ints .u64 [(f7a t),(f7b t),(f7c t),(f7d t),(f7e t)]) 5)),.s (.pl (.bool (f7f t)))]⟩),(nF111,⟨R8,fun t=>AV.agg (.ints .u64 (f8a t)) 20⟩)],[],noE⟩,[]⟩
theorem CBa_ev (fu:Nat):afunc prog fF72 (g_CBa T0 R0 f0a f0b f0c f0d f0e T1 R1 f1a f1b f1c f1d f1e T2 R2 f2a f2b f2c f2d f2e T3 R3 f3a f3b f3c f3d f3e T4 R4 f4a f4b f4c f4d f4e T5 R5 T6 R6 f6a f6b f6c f6d f6e T7 R7 f7a f7b f7c f7d f7e f7f T8 R8 f8a) fu []=(R0 [.int .u64 (4:Int)]).bind fun t=>(R0 [.int .u64 (5:Int)]).bind fun t_1=>(R1 [.agg (.ints .u64 [f0a t_1,f0b t_1,f0c t_1,f0d t_1,f0e t_1]) 5]).bind fun t_2=>(R2 [.agg (.ints .u64 [f0a t,f0b t,f0c t,f0d t,f0e t]) 5,.agg (.ints .u64 [f1a t_2,f1b t_2,f1c t_2,f1d t_2,f1e t_2]) 5]).bind fun t=>(R0 [.int .u64 (1:Int)]).bind fun t_3=>(R3 [.agg (.ints .u64 [f2a t,f2b t,f2c t,f2d t,f2e t]) 5]).bind fun t_4=>(R4 [.agg (.ints .u64 [f3a t_4,f3b t_4,f3c t_4,f3d t_4,f3e t_4]) 5,.agg (.ints .u64 [f0a t_3,f0b t_3,f0c t_3,f0d t_3,f0e t_3]) 5]).bind fun t_5=>(R5 []).bind fun t_6=>(R3 [.agg (.ints .u64 [f2a t,f2b t,f2c t,f2d t,f2e t]) 5]).bind fun t_7=>(R2 [.agg (.ints .u64 [(929955233495203:Int),466365720129213,1662059464998953,2033849074728123,1442794654840575]) 5,.agg (.ints .u64 [f3a t_7,f3b t_7,f3c t_7,f3d t_7,f3e t_7]) 5]).bind fun t_8=>(R6 [.agg (.ints .u64 [f2a t_8,f2b t_8,f2c t_8,f2d t_8,f2e t_8]) 5,.agg (.ints .u64 [f0a t_3,f0b t_3,f0c t_3,f0d t_3,f0e t_3]) 5]).bind fun t_9=>(R7 [.agg (.ints .u64 [f4a t_5,f4b t_5,f4c t_5,f4d t_5,f4e t_5]) 5,.agg (.ints .u64 [f6a t_9,f6b t_9,f6c t_9,f6d t_9,f6e t_9]) 5]).bind fun t_10=>(R8 [.agg (.ints .u64 [f7a t_10,f7b t_10,f7c t_10,f7d t_10,f7e t_10]) 5,.agg (.ints .u64 [f2a t,f2b t,f2c t,f2d t,f2e t]) 5]).bind fun t=>some (AV.agg (.ints .u64 (f8a t)) 20):=by kernel_rfl
end
section
variable (T0:Type) (R0:List AV->Option T0) (f0a f0b f0c f0d f0e:T0->Int)
def g_CJo:Cg:=⟨⟨gam [(nF39,⟨R0,fun t=>AV.agg (.ints .u64 [(f0a t),(f0b t),(f0c t),(f0d t),(f0e t)]) 5⟩)],[],noE⟩,[]⟩
theorem CJo_ev (fu:Nat) (a b c d e f g h i j k l m n o p q r s t:Int):afunc prog fF128 (g_CJo T0 R0 f0a f0b f0c f0d f0e) fu [.agg (.ints .u64 [a,b,c,d,e]) 5,.agg (.ints .u64 [f,g,h,i,j]) 5,.agg (.ints .u64 [k,l,m,n,o]) 5,.agg (.ints .u64 [p,q,r,s,t]) 5]=(R0 [.agg (.ints .u64 [a,b,c,d,e]) 5,.agg (.ints .u64 [f,g,h,i,j]) 5]).bind fun t_1=>(R0 [.agg (.ints .u64 [k,l,m,n,o]) 5,.agg (.ints .u64 [p,q,r,s,t]) 5]).bind fun t_2=>(R0 [.agg (.ints .u64 [f,g,h,i,j]) 5,.agg (.ints .u64 [k,l,m,n,o]) 5]).bind fun t_3=>(R0 [.agg (.ints .u64 [a,b,c,d,e]) 5,.agg (.ints .u64 [p,q,r,s,t]) 5]).bind fun t=>some (AV.agg (.ints .u64 ([f0a t_1,f0b t_1,f0c t_1,f0d t_1,f0e t_1]++([f0a t_2,f0b t_2,f0c t_2,f0d t_2,f0e t_2]++([f0a t_3,f0b t_3,f0c t_3,f0d t_3,f0e t_3]++[f0a t,f0b t,f0c t,f0d t,f0e t])))) 20):=by kernel_rfl
end
section
variable (T0:Type) (R0:List AV->Option T0) (f0a f0b f0c f0d f0e:T0->Int) (T1:Type) (R1:List AV->Option T1) (f1a f1b f1c f1d f1e:T1->Int) (T2:Type) (R2:List AV->Option T2) (f2a f2b f2c f2d f2e:T2->Int) (T3:Type) (R3:List AV->Option T3) (f3a:T3->List Int)
def g_Cad:Cg:=⟨⟨gam [(nF44,⟨R0,fun t=>AV.agg (.ints .u64 [(f0a t),(f0b t),(f0c t),(f0d t),(f0e t)]) 5⟩),(nF39,⟨R1,fun t=>AV.agg (.ints .u64 [(f1a t),(f1b t),(f1c t),(f1d t),(f1e t)]) 5⟩),(nF41,⟨R2,fun t=>AV.agg (.ints .u64 [(f2a t),(f2b t),(f2c t),(f2d t),(f2e t)]) 5⟩),(nF128,⟨R3,fun t=>AV.agg (.ints .u64 (f3a t)) 20⟩)],[],noE⟩,[]⟩
theorem Cad_ev (fu:Nat) (a b c d e f g h i j k l m n o p q r s t a' b' c' d' e' f' g' h' i' j' k' l' m' n' o' p' q' r' s' t' u0 u1 u2 u3 u4:Int):afunc prog fF101 (g_Cad T0 R0 f0a f0b f0c f0d f0e T1 R1 f1a f1b f1c f1d f1e T2 R2 f2a f2b f2c f2d f2e T3 R3 f3a) fu [.agg (.ints .u64 [a,b,c,d,e,f,g,h,i,j,k,l,m,n,o,p,q,r,s,t]) 20,.agg (.ints .u64 [a',b',c',d',e',f',g',h',i',j',k',l',m',n',o',p',q',r',s',t']) 20,.agg (.ints .u64 [u0,u1,u2,u3,u4]) 5]=(R0 [.agg (.ints .u64 (List.take 5 (List.drop 5 [a,b,c,d,e,f,g,h,i,j,k,l,m,n,o,p,q,r,s,t]))) 5,.agg (.ints .u64 (List.take 5 (List.drop 0 [a,b,c,d,e,f,g,h,i,j,k,l,m,n,o,p,q,r,s,t]))) 5]).bind fun t_1=>(R0 [.agg (.ints .u64 (List.take 5 (List.drop 5 [a',b',c',d',e',f',g',h',i',j',k',l',m',n',o',p',q',r',s',t']))) 5,.agg (.ints .u64 (List.take 5 (List.drop 0 [a',b',c',d',e',f',g',h',i',j',k',l',m',n',o',p',q',r',s',t']))) 5]).bind fun t_2=>(R1 [.agg (.ints .u64 [f0a t_1,f0b t_1,f0c t_1,f0d t_1,f0e t_1]) 5,.agg (.ints .u64 [f0a t_2,f0b t_2,f0c t_2,f0d t_2,f0e t_2]) 5]).bind fun t_3=>(R2 [.agg (.ints .u64 (List.take 5 (List.drop 5 [a,b,c,d,e,f,g,h,i,j,k,l,m,n,o,p,q,r,s,t]))) 5,.agg (.ints .u64 (List.take 5 (List.drop 0 [a,b,c,d,e,f,g,h,i,j,k,l,m,n,o,p,q,r,s,t]))) 5]).bind fun t_4=>(R2 [.agg (.ints .u64 (List.take 5 (List.drop 5 [a',b',c',d',e',f',g',h',i',j',k',l',m',n',o',p',q',r',s',t']))) 5,.agg (.ints .u64 (List.take 5 (List.drop 0 [a',b',c',d',e',f',g',h',i',j',k',l',m',n',o',p',q',r',s',t']))) 5]).bind fun t_5=>(R1 [.agg (.ints .u64 [f2a t_4,f2b t_4,f2c t_4,f2d t_4,f2e t_4]) 5,.agg (.ints .u64 [f2a t_5,f2b t_5,f2c t_5,f2d t_5,f2e t_5]) 5]).bind fun t_6=>(R1 [.agg (.ints .u64 (List.take 5 (List.drop 15 [a,b,c,d,e,f,g,h,i,j,k,l,m,n,o,p,q,r,s,t]))) 5,.agg (.ints .u64 [u0,u1,u2,u3,u4]) 5]).bind fun t_7=>(R1 [.agg (.ints .u64 [f1a t_7,f1b t_7,f1c t_7,f1d t_7,f1e t_7]) 5,.agg (.ints .u64 (List.take 5 (List.drop 15 [a',b',c',d',e',f',g',h',i',j',k',l',m',n',o',p',q',r',s',t']))) 5]).bind fun t_8=>(R2 [.agg (.ints .u64 (List.take 5 (List.drop 10 [a,b,c,d,e,f,g,h,i,j,k,l,m,n,o,p,q,r,s,t]))) 5,.agg (.ints .u64 (List.take 5 (List.drop 10 [a,b,c,d,e,f,g,h,i,j,k,l,m,n,o,p,q,r,s,t]))) 5]).bind fun t=>(R1 [.agg (.ints .u64 [f2a t,f2b t,f2c t,f2d t,f2e t]) 5,.agg (.ints .u64 (List.take 5 (List.drop 10 [a',b',c',d',e',f',g',h',i',j',k',l',m',n',o',p',q',r',s',t']))) 5]).bind fun t=>(R0 [.agg (.ints .u64 [f1a t_6,f1b t_6,f1c t_6,f1d t_6,f1e t_6]) 5,.agg (.ints .u64 [f1a t_3,f1b t_3,f1c t_3,f1d t_3,f1e t_3]) 5]).bind fun t_9=>(R0 [.agg (.ints .u64 [f1a t,f1b t,f1c t,f1d t,f1e t]) 5,.agg (.ints .u64 [f1a t_8,f1b t_8,f1c t_8,f1d t_8,f1e t_8]) 5]).bind fun t_10=>(R2 [.agg (.ints .u64 [f1a t,f1b t,f1c t,f1d t,f1e t]) 5,.agg (.ints .u64 [f1a t_8,f1b t_8,f1c t_8,f1d t_8,f1e t_8]) 5]).bind fun t=>(R2 [.agg (.ints .u64 [f1a t_6,f1b t_6,f1c t_6,f1d t_6,f1e t_6]) 5,.agg (.ints .u64 [f1a t_3,f1b t_3,f1c t_3,f1d t_3,f1e t_3]) 5]).bind fun t_11=>(R3 [.agg (.ints .u64 [f0a t_9,f0b t_9,f0c t_9,f0d t_9,f0e t_9]) 5,.agg (.ints .u64 [f0a t_10,f0b t_10,f0c t_10,f0d t_10,f0e t_10]) 5,.agg (.ints .u64 [f2a t,f2b t,f2c t,f2d t,f2e t]) 5,.agg (.ints .u64 [f2a t_11,f2b t_11,f2c t_11,f2d t_11,f2e t_11]) 5]).bind fun t=>some (AV.agg (.ints .u64 (f3a t)) 20):=by kernel_rfl
end
section
variable (T0:Type) (R0:List AV->Option T0) (T1:Type) (R1:List AV->Option T1) (f1a f1b f1c f1d f1e:T1->Int) (T2:Type) (R2:List AV->Option T2) (f2a:T2->List Int)
def g_CAd:Cg:=⟨⟨gam [(nF36,⟨R0,fun t=>AV.agg (.ints .u64 ([929955233495203,466365720129213,1662059464998953,2033849074728123,1442794654840575])) 5⟩),(nF41,⟨R1,fun t=>AV.agg (.ints .u64 [(f1a t),(f1b t),(f1c t),(f1d t),(f1e t)]) 5⟩),(nF101,⟨R2,fun t=>AV.agg (.ints .u64 (f2a t)) 20⟩)],[],noE⟩,[]⟩
theorem CAd_ev (fu:Nat) (a b c d e f g h i j k l m n o p q r s t a' b' c' d' e' f' g' h' i' j' k' l' m' n' o' p' q' r' s' t':Int):afunc prog fF60 (g_CAd T0 R0 T1 R1 f1a f1b f1c f1d f1e T2 R2 f2a) fu [.agg (.ints .u64 [a,b,c,d,e,f,g,h,i,j,k,l,m,n,o,p,q,r,s,t]) 20,.agg (.ints .u64 [a',b',c',d',e',f',g',h',i',j',k',l',m',n',o',p',q',r',s',t']) 20]=(R0 []).bind fun t_1=>(R0 []).bind fun t_2=>(R1 [.agg (.ints .u64 [(929955233495203:Int),466365720129213,1662059464998953,2033849074728123,1442794654840575]) 5,.agg (.ints .u64 [(929955233495203:Int),466365720129213,1662059464998953,2033849074728123,1442794654840575]) 5]).bind fun t_3=>(R2 [.agg (.ints .u64 [a,b,c,d,e,f,g,h,i,j,k,l,m,n,o,p,q,r,s,t]) 20,.agg (.ints .u64 [a',b',c',d',e',f',g',h',i',j',k',l',m',n',o',p',q',r',s',t']) 20,.agg (.ints .u64 [f1a t_3,f1b t_3,f1c t_3,f1d t_3,f1e t_3]) 5]).bind fun t=>some (AV.agg (.ints .u64 (f2a t)) 20):=by kernel_rfl
end
section
variable (T0:Type) (R0:List AV->Option T0) (f0a f0b f0c f0d f0e:T0->Int) (T1:Type) (R1:List AV->Option T1) (f1a f1b f1c f1d f1e:T1->Int) (T2:Type) (R2:List AV->Option T2) (f2a f2b f2c f2d f2e:T2->Int) (T3:Type) (R3:List AV->Option T3) (f3a:T3->List Int)
def g_CDb:Cg:=⟨⟨gam [(nF40,⟨R0,fun t=>AV.agg (.ints .u64 [(f0a t),(f0b t),(f0c t),(f0d t),(f0e t)]) 5⟩),(nF41,⟨R1,fun t=>AV.agg (.ints .u64 [(f1a t),(f1b t),(f1c t),(f1d t),(f1e t)]) 5⟩),(nF44,⟨R2,fun t=>AV.agg (.ints .u64 [(f2a t),(f2b t),(f2c t),(f2d t),(f2e t)]) 5⟩),(nF128,⟨R3,fun t=>AV.agg (.ints .u64 (f3a t)) 20⟩)],[],noE⟩,[]⟩
theorem CDb_ev (fu:Nat) (a b c d e f g h i j k l m n o p q r s t:Int):afunc prog fF113 (g_CDb T0 R0 f0a f0b f0c f0d f0e T1 R1 f1a f1b f1c f1d f1e T2 R2 f2a f2b f2c f2d f2e T3 R3 f3a) fu [.agg (.ints .u64 [a,b,c,d,e,f,g,h,i,j,k,l,m,n,o,p,q,r,s,t]) 20]=(R0 [.agg (.ints .u64 (List.take 5 (List.drop 0 [a,b,c,d,e,f,g,h,i,j,k,l,m,n,o,p,q,r,s,t]))) 5]).bind fun t_1=>(R0 [.agg (.ints .u64 (List.take 5 (List.drop 5 [a,b,c,d,e,f,g,h,i,j,k,l,m,n,o,p,q,r,s,t]))) 5]).bind fun t_2=>(R0 [.agg (.ints .u64 (List.take 5 (List.drop 10 [a,b,c,d,e,f,g,h,i,j,k,l,m,n,o,p,q,r,s,t]))) 5]).bind fun t_3=>(R1 [.agg (.ints .u64 [f0a t_1,f0b t_1,f0c t_1,f0d t_1,f0e t_1]) 5,.agg (.ints .u64 [f0a t_2,f0b t_2,f0c t_2,f0d t_2,f0e t_2]) 5]).bind fun t_4=>(R2 [.agg (.ints .u64 [f0a t_1,f0b t_1,f0c t_1,f0d t_1,f0e t_1]) 5,.agg (.ints .u64 [f0a t_2,f0b t_2,f0c t_2,f0d t_2,f0e t_2]) 5]).bind fun t_5=>(R1 [.agg (.ints .u64 (List.take 5 (List.drop 0 [a,b,c,d,e,f,g,h,i,j,k,l,m,n,o,p,q,r,s,t]))) 5,.agg (.ints .u64 (List.take 5 (List.drop 5 [a,b,c,d,e,f,g,h,i,j,k,l,m,n,o,p,q,r,s,t]))) 5]).bind fun t=>(R0 [.agg (.ints .u64 [f1a t,f1b t,f1c t,f1d t,f1e t]) 5]).bind fun t=>(R2 [.agg (.ints .u64 [f1a t_4,f1b t_4,f1c t_4,f1d t_4,f1e t_4]) 5,.agg (.ints .u64 [f0a t,f0b t,f0c t,f0d t,f0e t]) 5]).bind fun t=>(R1 [.agg (.ints .u64 [f0a t_3,f0b t_3,f0c t_3,f0d t_3,f0e t_3]) 5,.agg (.ints .u64 [f0a t_3,f0b t_3,f0c t_3,f0d t_3,f0e t_3]) 5]).bind fun t_6=>(R1 [.agg (.ints .u64 [f1a t_6,f1b t_6,f1c t_6,f1d t_6,f1e t_6]) 5,.agg (.ints .u64 [f2a t_5,f2b t_5,f2c t_5,f2d t_5,f2e t_5]) 5]).bind fun t_7=>(R3 [.agg (.ints .u64 [f2a t,f2b t,f2c t,f2d t,f2e t]) 5,.agg (.ints .u64 [f1a t_7,f1b t_7,f1c t_7,f1d t_7,f1e t_7]) 5,.agg (.ints .u64 [f2a t_5,f2b t_5,f2c t_5,f2d t_5,f2e t_5]) 5,.agg (.ints .u64 [f1a t_4,f1b t_4,f1c t_4,f1d t_4,f1e t_4]) 5]).bind fun t=>some (AV.agg (.ints .u64 (f3a t)) 20):=by kernel_rfl
end
section
variable (T0:Type) (R0:List AV->Option T0) (f0a f0b f0c f0d f0e:T0->Int)
def g_CPN:Cg:=⟨⟨gam [(nF43,⟨R0,fun t=>AV.agg (.ints .u64 [(f0a t),(f0b t),(f0c t),(f0d t),(f0e t)]) 5⟩)],[],noE⟩,[]⟩
theorem CPN_ev (fu:Nat) (a b c d e f g h i j k l m n o p q r s t:Int):afunc prog fF167 (g_CPN T0 R0 f0a f0b f0c f0d f0e) fu [.agg (.ints .u64 [a,b,c,d,e,f,g,h,i,j,k,l,m,n,o,p,q,r,s,t]) 20]=(R0 [.agg (.ints .u64 (List.take 5 (List.drop 0 [a,b,c,d,e,f,g,h,i,j,k,l,m,n,o,p,q,r,s,t]))) 5]).bind fun t_1=>(R0 [.agg (.ints .u64 (List.take 5 (List.drop 15 [a,b,c,d,e,f,g,h,i,j,k,l,m,n,o,p,q,r,s,t]))) 5]).bind fun t_2=>some (AV.agg (.ints .u64 ([f0a t_1,f0b t_1,f0c t_1,f0d t_1,f0e t_1]++(List.take 5 (List.drop 5 [a,b,c,d,e,f,g,h,i,j,k,l,m,n,o,p,q,r,s,t])++(List.take 5 (List.drop 10 [a,b,c,d,e,f,g,h,i,j,k,l,m,n,o,p,q,r,s,t])++[f0a t_2,f0b t_2,f0c t_2,f0d t_2,f0e t_2])))) 20):=by kernel_rfl
end
section
variable (T0:Type) (R0:List AV->Option T0) (f0a f0b f0c f0d f0e:T0->Int) (T1:Type) (R1:List AV->Option T1) (f1a f1b f1c f1d f1e:T1->Int)
def g_CPY:Cg:=⟨⟨gam [(nF110,⟨R0,fun t=>AV.agg (.ints .u64 [(f0a t),(f0b t),(f0c t),(f0d t),(f0e t)]) 5⟩),(nF39,⟨R1,fun t=>AV.agg (.ints .u64 [(f1a t),(f1b t),(f1c t),(f1d t),(f1e t)]) 5⟩)],[],noE⟩,[]⟩
theorem CPY_ev (fu:Nat) (a b c d e f g h i j k l m n o p q r s t:Int):afunc prog fF169 (g_CPY T0 R0 f0a f0b f0c f0d f0e T1 R1 f1a f1b f1c f1d f1e) fu [.agg (.ints .u64 [a,b,c,d,e,f,g,h,i,j,k,l,m,n,o,p,q,r,s,t]) 20]=(R0 [.agg (.ints .u64 (List.take 5 (List.drop 10 [a,b,c,d,e,f,g,h,i,j,k,l,m,n,o,p,q,r,s,t]))) 5]).bind fun t_1=>(R1 [.agg (.ints .u64 (List.take 5 (List.drop 5 [a,b,c,d,e,f,g,h,i,j,k,l,m,n,o,p,q,r,s,t]))) 5,.agg (.ints .u64 [f0a t_1,f0b t_1,f0c t_1,f0d t_1,f0e t_1]) 5]).bind fun t=>some (AV.agg (.ints .u64 [f1a t,f1b t,f1c t,f1d t,f1e t]) 5):=by kernel_rfl
end
section
variable (T0:Type) (R0:List AV->Option T0) (f0a f0b f0c f0d f0e:T0->Int) (T1:Type) (R1:List AV->Option T1) (f1a:T1->Bool)
def g_CPS:Cg:=⟨⟨gam [(nF39,⟨R0,fun t=>AV.agg (.ints .u64 [(f0a t),(f0b t),(f0c t),(f0d t),(f0e t)]) 5⟩),(nF90,⟨R1,fun t=>AV.bool (f1a t)⟩)],[],noE⟩,[]⟩
theorem CPS_ev (fu:Nat) (a b c d e f g h i j k l m n o p q r s t a' b' c' d' e' f' g' h' i' j' k' l' m' n' o' p' q' r' s' t':Int):afunc prog fF168 (g_CPS T0 R0 f0a f0b f0c f0d f0e T1 R1 f1a) fu [.agg (.ints .u64 [a,b,c,d,e,f,g,h,i,j,k,l,m,n,o,p,q,r,s,t]) 20,.agg (.ints .u64 [a',b',c',d',e',f',g',h',i',j',k',l',m',n',o',p',q',r',s',t']) 20]=(R0 [.agg (.ints .u64 (List.take 5 (List.drop 0 [a,b,c,d,e,f,g,h,i,j,k,l,m,n,o,p,q,r,s,t]))) 5,.agg (.ints .u64 (List.take 5 (List.drop 10 [a',b',c',d',e',f',g',h',i',j',k',l',m',n',o',p',q',r',s',t']))) 5]).bind fun t_1=>(R0 [.agg (.ints .u64 (List.take 5 (List.drop 0 [a',b',c',d',e',f',g',h',i',j',k',l',m',n',o',p',q',r',s',t']))) 5,.agg (.ints .u64 (List.take 5 (List.drop 10 [a,b,c,d,e,f,g,h,i,j,k,l,m,n,o,p,q,r,s,t]))) 5]).bind fun t_2=>(R1 [.agg (.ints .u64 [f0a t_1,f0b t_1,f0c t_1,f0d t_1,f0e t_1]) 5,.agg (.ints .u64 [f0a t_2,f0b t_2,f0c t_2,f0d t_2,f0e t_2]) 5]).bind fun t_3=>bif f1a t_3 then (R0 [.agg (.ints .u64 (List.take 5 (List.drop 5 [a,b,c,d,e,f,g,h,i,j,k,l,m,n,o,p,q,r,s,t]))) 5,.agg (.ints .u64 (List.take 5 (List.drop 10 [a',b',c',d',e',f',g',h',i',j',k',l',m',n',o',p',q',r',s',t']))) 5]).bind fun t_4=>(R0 [.agg (.ints .u64 (List.take 5 (List.drop 5 [a',b',c',d',e',f',g',h',i',j',k',l',m',n',o',p',q',r',s',t']))) 5,.agg (.ints .u64 (List.take 5 (List.drop 10 [a,b,c,d,e,f,g,h,i,j,k,l,m,n,o,p,q,r,s,t]))) 5]).bind fun t=>(R1 [.agg (.ints .u64 [f0a t_4,f0b t_4,f0c t_4,f0d t_4,f0e t_4]) 5,.agg (.ints .u64 [f0a t,f0b t,f0c t,f0d t,f0e t]) 5]).bind fun t=>some (AV.bool (f1a t)) else some (AV.bool false):=by kernel_rfl
end
section
variable (T0:Type) (R0:List AV->Option T0) (T1:Type) (R1:List AV->Option T1) (T2:Type) (R2:List AV->Option T2) (f2a:T2->List Int) (T3:Type) (R3:List AV->Option T3) (f3a:T3->List Int) (T4:Type) (R4:List AV->Option T4) (f4a:T4->List Int) (T5:Type) (R5:List AV->Option T5) (f5a:T5->List Int) (T6:Type) (R6:List AV->Option T6) (f6a:T6->Bool) (T7:Type) (R7:List AV->Option T7) (f7a:T7->List Int) (T8:Type) (R8:List AV->Option T8) (f8a f8b f8c f8d f8e:T8->Int) (T9:Type) (R9:List AV->Option T9) (f9a f9b f9c f9d f9e:T9->Int) (T10:Type) (R10:List AV->Option T10) (f10a:T10->Bool)
def g_CAw7:Cg:=⟨⟨gam [(nF166,⟨R0,fun t=>AV.bool (true)⟩),(nF28,⟨R1,fun t=>AV.bool (true)⟩),(nF72,⟨R2,fun t=>AV.agg (.ints .u64 (f2a t)) 20⟩),(nF167,⟨R3,fun t=>AV.agg (.ints .u64 (f3a t)) 20⟩),(nF60,⟨R4,fun t=>AV.agg (.ints .u64 (f4a t)) 20⟩),(nF98,⟨R5,fun t=>AV.agg (.ints .u64 (f5a t)) 20⟩),(nF168,⟨R6,fun t=>AV.bool (f6a t)⟩),(nF169,⟨R7,fun t=>AV.agg (.ints .u64 (f7a t)) 5⟩),(nF35,⟨R8,fun t=>AV.agg (.ints .u64 [(f8a t),(f8b t),(f8c t),(f8d t),(f8e t)]) 5⟩),(nF39,⟨R9,fun t=>AV.agg (.ints .u64 [(f9a t),(f9b t),(f9c t),(f9d t),(f9e t)]) 5⟩),(nF90,⟨R10,fun t=>AV.bool (f10a t)⟩)],[],noE⟩,[]⟩
theorem CAw7_ev (fu:Nat):afunc prog fF149 (g_CAw7 T0 R0 T1 R1 T2 R2 f2a T3 R3 f3a T4 R4 f4a T5 R5 f5a T6 R6 f6a T7 R7 f7a T8 R8 f8a f8b f8c f8d f8e T9 R9 f9a f9b f9c f9d f9e T10 R10 f10a) fu []=(R0 []).bind fun t=>(R1 []).bind fun t=>(R2 []).bind fun t=>(R3 [.agg (.ints .u64 (f2a t)) 20]).bind fun t_1=>(R4 [.agg (.ints .u64 (f2a t)) 20,.agg (.ints .u64 (f3a t_1)) 20]).bind fun t_2=>(R5 []).bind fun t_3=>(R6 [.agg (.ints .u64 (f4a t_2)) 20,.agg (.ints .u64 (f5a t_3)) 20]).bind fun t_4=>bif f6a t_4 then (R5 []).bind fun t_5=>(R6 [.agg (.ints .u64 (f2a t)) 20,.agg (.ints .u64 (f5a t_5)) 20]).bind fun t_6=>bif !f6a t_6 then (R7 [.agg (.ints .u64 (f2a t)) 20]).bind fun t=>(R8 [.int .u64 (5:Int)]).bind fun t_7=>(R9 [.agg (.ints .u64 (f7a t)) 5,.agg (.ints .u64 [f8a t_7,f8b t_7,f8c t_7,f8d t_7,f8e t_7]) 5]).bind fun t=>(R8 [.int .u64 (4:Int)]).bind fun t_8=>(R10 [.agg (.ints .u64 [f9a t,f9b t,f9c t,f9d t,f9e t]) 5,.agg (.ints .u64 [f8a t_8,f8b t_8,f8c t_8,f8d t_8,f8e t_8]) 5]).bind fun t=>some (AV.bool (f10a t)) else some (AV.bool false) else some (AV.bool false):=by kernel_rfl
end
set_option maxRecDepth 4000
def pOk (p:Pt):Prop:=fOk p.x /\ fOk p.y /\ fOk p.z /\ fOk p.t
theorem runP1_ok {T:Type} {F:Pt->T} {args:List AV} {t:T} (h:runP1 F args=some t):∃ p,args=[eP p] /\ pOk p /\ t=F p:=by
 unfold runP1 at h
 split at h
 ·obtain ⟨h1,h2⟩:=ctrueS h
  simp only [Bool.and_eq_true] at h1
  obtain ⟨x,rfl,rfl,rfl,rfl,rfl,hx,ex⟩:=inF_ok h1.1
  obtain ⟨y,rfl,rfl,rfl,rfl,rfl,hy,ey⟩:=inF_ok h1.2.1
  obtain ⟨z,rfl,rfl,rfl,rfl,rfl,hz,ez⟩:=inF_ok h1.2.2.1
  obtain ⟨w,rfl,rfl,rfl,rfl,rfl,hw,ew⟩:=inF_ok h1.2.2.2
  rw [ex,ey,ez,ew] at h2
  exact ⟨⟨x,y,z,w⟩,rfl,⟨hx,hy,hz,hw⟩,h2.symm⟩
 ·cases h
theorem runP2_ok {T:Type} {F:Pt->Pt->T} {args:List AV} {t:T} (h:runP2 F args=some t):∃ p q,args=[eP p,eP q] /\ pOk p /\ pOk q /\ t=F p q:=by
 unfold runP2 at h
 split at h
 ·obtain ⟨h1,h2⟩:=ctrueS h
  simp only [Bool.and_eq_true] at h1
  obtain ⟨x,rfl,rfl,rfl,rfl,rfl,hx,ex⟩:=inF_ok h1.1.1
  obtain ⟨y,rfl,rfl,rfl,rfl,rfl,hy,ey⟩:=inF_ok h1.1.2.1
  obtain ⟨z,rfl,rfl,rfl,rfl,rfl,hz,ez⟩:=inF_ok h1.1.2.2.1
  obtain ⟨w,rfl,rfl,rfl,rfl,rfl,hw,ew⟩:=inF_ok h1.1.2.2.2
  obtain ⟨x',rfl,rfl,rfl,rfl,rfl,hx',ex'⟩:=inF_ok h1.2.1
  obtain ⟨y',rfl,rfl,rfl,rfl,rfl,hy',ey'⟩:=inF_ok h1.2.2.1
  obtain ⟨z',rfl,rfl,rfl,rfl,rfl,hz',ez'⟩:=inF_ok h1.2.2.2.1
  obtain ⟨w',rfl,rfl,rfl,rfl,rfl,hw',ew'⟩:=inF_ok h1.2.2.2.2
  rw [ex,ey,ez,ew,ex',ey',ez',ew'] at h2
  exact ⟨⟨x,y,z,w⟩,⟨x',y',z',w'⟩,rfl,⟨hx,hy,hz,hw⟩,⟨hx',hy',hz',hw'⟩,h2.symm⟩
 ·cases h
theorem runP2F_ok {T:Type} {F:Pt->Pt->Fe->T} {args:List AV} {t:T} (h:runP2F F args=some t):∃ p q u,args=[eP p,eP q,eF u] /\ pOk p /\ pOk q /\ fOk u /\ t=F p q u:=by
 unfold runP2F at h
 split at h
 ·obtain ⟨h1,h2⟩:=ctrueS h
  simp only [Bool.and_eq_true] at h1
  obtain ⟨x,rfl,rfl,rfl,rfl,rfl,hx,ex⟩:=inF_ok h1.1.1.1
  obtain ⟨y,rfl,rfl,rfl,rfl,rfl,hy,ey⟩:=inF_ok h1.1.1.2.1
  obtain ⟨z,rfl,rfl,rfl,rfl,rfl,hz,ez⟩:=inF_ok h1.1.1.2.2.1
  obtain ⟨w,rfl,rfl,rfl,rfl,rfl,hw,ew⟩:=inF_ok h1.1.1.2.2.2
  obtain ⟨x',rfl,rfl,rfl,rfl,rfl,hx',ex'⟩:=inF_ok h1.1.2.1
  obtain ⟨y',rfl,rfl,rfl,rfl,rfl,hy',ey'⟩:=inF_ok h1.1.2.2.1
  obtain ⟨z',rfl,rfl,rfl,rfl,rfl,hz',ez'⟩:=inF_ok h1.1.2.2.2.1
  obtain ⟨w',rfl,rfl,rfl,rfl,rfl,hw',ew'⟩:=inF_ok h1.1.2.2.2.2
  obtain ⟨u,rfl,rfl,rfl,rfl,rfl,hu,eu⟩:=inF_ok h1.2
  rw [ex,ey,ez,ew,ex',ey',ez',ew',eu] at h2
  exact ⟨⟨x,y,z,w⟩,⟨x',y',z',w'⟩,u,rfl,⟨hx,hy,hz,hw⟩,⟨hx',hy',hz',hw'⟩,hu,h2.symm⟩
 ·cases h
theorem runF4_ok {T:Type} {F:Fe->Fe->Fe->Fe->T} {args:List AV} {t:T} (h:runF4 F args=some t):∃ x y z w,args=[eF x,eF y,eF z,eF w] /\ fOk x /\ fOk y /\ fOk z /\ fOk w /\ t=F x y z w:=by
 unfold runF4 at h
 split at h
 ·obtain ⟨h1,h2⟩:=ctrueS h
  simp only [Bool.and_eq_true] at h1
  obtain ⟨x,rfl,rfl,rfl,rfl,rfl,hx,ex⟩:=inF_ok h1.1
  obtain ⟨y,rfl,rfl,rfl,rfl,rfl,hy,ey⟩:=inF_ok h1.2.1
  obtain ⟨z,rfl,rfl,rfl,rfl,rfl,hz,ez⟩:=inF_ok h1.2.2.1
  obtain ⟨w,rfl,rfl,rfl,rfl,rfl,hw,ew⟩:=inF_ok h1.2.2.2
  rw [ex,ey,ez,ew] at h2
  exact ⟨x,y,z,w,rfl,hx,hy,hz,hw,h2.symm⟩
 ·cases h
theorem run_P1 {T:Type} (F:Pt->T) {p:Pt} (h:pOk p):runP1 F [eP p]=some (F p):=by
 obtain ⟨x,y,z,w⟩:=p
 obtain ⟨h1,h2,h3,h4⟩:=h
 simp only [runP1,eP]
 rw [inF_of h1,inF_of h2,inF_of h3,inF_of h4]; rfl
theorem run_P2 {T:Type} (F:Pt->Pt->T) {p q:Pt} (h:pOk p) (k:pOk q):runP2 F [eP p,eP q]=some (F p q):=by
 obtain ⟨x,y,z,w⟩:=p
 obtain ⟨h1,h2,h3,h4⟩:=h
 obtain ⟨x',y',z',w'⟩:=q
 obtain ⟨k1,k2,k3,k4⟩:=k
 simp only [runP2,eP]
 rw [inF_of h1,inF_of h2,inF_of h3,inF_of h4,inF_of k1,inF_of k2,inF_of k3,inF_of k4]; rfl
theorem run_P2F {T:Type} (F:Pt->Pt->Fe->T) {p q:Pt} {u:Fe} (h:pOk p) (k:pOk q) (hu:fOk u):runP2F F [eP p,eP q,eF u]=some (F p q u):=by
 obtain ⟨x,y,z,w⟩:=p
 obtain ⟨h1,h2,h3,h4⟩:=h
 obtain ⟨x',y',z',w'⟩:=q
 obtain ⟨k1,k2,k3,k4⟩:=k
 simp only [runP2F,eP,eF]
 rw [inF_of h1,inF_of h2,inF_of h3,inF_of h4,inF_of k1,inF_of k2,inF_of k3,inF_of k4,inF_of hu]; rfl
theorem run_F4 {T:Type} (F:Fe->Fe->Fe->Fe->T) {x y z w:Fe} (h1:fOk x) (h2:fOk y) (h3:fOk z) (h4:fOk w):runF4 F [eF x,eF y,eF z,eF w]=some (F x y z w):=by
 simp only [runF4,eF]
 rw [inF_of h1,inF_of h2,inF_of h3,inF_of h4]; rfl
theorem plain_ok {x y:Fe} (hx:fOk x) (hy:fOk y):pOk (plainP x y):=⟨hx,hy,fe_ok 1,mul_ok hx hy⟩
theorem join_ok {e f g h:Fe} (he:fOk e) (hf:fOk f) (hg:fOk g) (hh:fOk h):pOk (joinP e f g h):=⟨mul_ok he hf,mul_ok hg hh,mul_ok hf hg,mul_ok he hh⟩
theorem addP_ok {p q:Pt} {u:Fe} (hp:pOk p) (hq:pOk q) (hu:fOk u):pOk (addP p q u):=by
 obtain ⟨h1,h2,h3,h4⟩:=hp
 obtain ⟨k1,k2,k3,k4⟩:=hq
 have a:=mul_ok (x:=subF p.y p.x) (y:=subF q.y q.x) (sub_ok h2) (sub_ok k2)
 have b:=mul_ok (add_ok h2 h1) (add_ok k2 k1)
 have c:=mul_ok (mul_ok h4 hu) k4
 have d:=mul_ok (add_ok h3 h3) k3
 exact join_ok (sub_ok b) (sub_ok d) (add_ok d c) (add_ok b a)
theorem dF_ok:fOk dF:=fe_ok _
theorem d2_ok:fOk d2F:=add_ok dF_ok dF_ok
theorem negP_ok {p:Pt} (hp:pOk p):pOk (negP p):=⟨sub_ok f0_ok,hp.2.1,hp.2.2.1,sub_ok f0_ok⟩
theorem dblP_ok {p:Pt} (hp:pOk p):pOk (dblP p):=by
 obtain ⟨h1,h2,h3,h4⟩:=hp
 have a:=mul_ok h1 h1
 have b:=mul_ok h2 h2
 have z:=mul_ok h3 h3
 have s:=add_ok h1 h2
 exact join_ok (sub_ok (add_ok a b)) (add_ok (add_ok z z) (sub_ok a)) (sub_ok a) (add_ok a b)
theorem neut_ok:pOk neutP:=plain_ok (fe_ok 0) (fe_ok 1)
theorem baseY_ok:fOk baseY:=mul_ok (fe_ok 4) (inv_okC (fe_ok 5))
where inv_okC {x:Fe} (hx:fOk x):fOk (invF x):=pow_ok hx (fe_ok 1)
abbrev gI_CD:Cg:=g_CD (Fe) rFDec (fun t=>↑t.a) (fun t=>↑t.b) (fun t=>↑t.c) (fun t=>↑t.d) (fun t=>↑t.e)
theorem gok_CD:CfOk prog gI_CD.c:=⟨gam_cons ok_FDec <| gam_nil,fun _ _ h=>by cases h⟩
def dStr:Str:=[51,55,48,57,53,55,48,53,57,51,52,54,54,57,52,51,57,51,52,51,49,51,56,48,56,51,53,48,56,55,53,52,53,54,53,49,56,57,53,52,50,49,49,51,56,55,57,56,52,51,50,49,57,48,49,54,51,56,56,55,56,53,53,51,51,48,56,53,57,52,48,50,56,51,53,53,53]
theorem dStr_val:(decE dStr).1%P25=37095705934669439343138083508754565189542113879843219016388785533085940283555:=by decide +kernel
theorem ok_CD:CallOk prog nF36 sCD:=by
 refine afunc_okE (g:=gI_CD) (fu:=fun _=>0) mixed gok_CD hF36 (by kernel_rfl) ?_
 intro args t ht
 unfold sCD at ht
 simp only at ht
 split at ht
 ·refine (CD_ev ..).trans ?_
  have d:=run_FDec (s:=dStr) (by decide +kernel)
  rw [dStr_val] at d
  refine (congrArg (fun o=>Option.bind o _) d).trans ?_
  rfl
 ·cases ht
abbrev gI_CPl:Cg:=g_CPl (Fe) rFOf (fun t=>↑t.a) (fun t=>↑t.b) (fun t=>↑t.c) (fun t=>↑t.d) (fun t=>↑t.e) (Fe) rFMul (fun t=>↑t.a) (fun t=>↑t.b) (fun t=>↑t.c) (fun t=>↑t.d) (fun t=>↑t.e)
theorem gok_CPl:CfOk prog gI_CPl.c:=⟨gam_cons ok_FOf <| gam_cons ok_FMul <| gam_nil,fun _ _ h=>by cases h⟩
theorem ok_Plain:CallOk prog nF111 sPlain:=by
 refine afunc_okE (g:=gI_CPl) (fu:=fun _=>0) mixed gok_CPl hF111 (by kernel_rfl) ?_
 intro args t ht
 obtain ⟨x,y,rfl,hx,hy,rfl⟩:=runF2_ok (F:=plainP) ht
 have o1:=run_FOf (n:=1) (by decide)
 rw [show ((1:Nat):Int)=1 from rfl] at o1
 have m:=run_FMul hx hy
 simp only [eF] at m
 refine (CPl_ev ..).trans ?_
 rw [o1,Option.bind_some,m,Option.bind_some]
 rfl
theorem run_Plain {x y:Fe} (hx:fOk x) (hy:fOk y):rPlain [eF x,eF y]=some (plainP x y):=by
 simp only [rPlain,sPlain]; exact run_F2 plainP hx hy
abbrev gI_CNe:Cg:=g_CNe (Fe) rFOf (fun t=>↑t.a) (fun t=>↑t.b) (fun t=>↑t.c) (fun t=>↑t.d) (fun t=>↑t.e) (Pt) rPlain (fun t=>[↑t.x.a,↑t.x.b,↑t.x.c,↑t.x.d,↑t.x.e,↑t.y.a,↑t.y.b,↑t.y.c,↑t.y.d,↑t.y.e,↑t.z.a,↑t.z.b,↑t.z.c,↑t.z.d,↑t.z.e,↑t.t.a,↑t.t.b,↑t.t.c,↑t.t.d,↑t.t.e])
theorem gok_CNe:CfOk prog gI_CNe.c:=⟨gam_cons ok_FOf <| gam_cons ok_Plain <| gam_nil,fun _ _ h=>by cases h⟩
theorem ok_Neut:CallOk prog nF98 sNeut:=by
 refine afunc_okE (g:=gI_CNe) (fu:=fun _=>0) mixed gok_CNe hF98 (by kernel_rfl) ?_
 intro args t ht
 unfold sNeut run0 at ht
 simp only at ht
 split at ht
 ·cases ht
  have o0:=run_FOf (n:=0) (by decide)
  have o1:=run_FOf (n:=1) (by decide)
  rw [show ((1:Nat):Int)=1 from rfl] at o1
  rw [show ((0:Nat):Int)=0 from rfl] at o0
  have m:=run_Plain (fe_ok 0) (fe_ok 1)
  simp only [eF] at m
  refine (CNe_ev ..).trans ?_
  rw [o0,Option.bind_some,o1,Option.bind_some,m,Option.bind_some]
  rfl
 ·cases ht
theorem run_Neut:rNeut []=some neutP:=rfl
abbrev gI_CJo:Cg:=g_CJo (Fe) rFMul (fun t=>↑t.a) (fun t=>↑t.b) (fun t=>↑t.c) (fun t=>↑t.d) (fun t=>↑t.e)
theorem gok_CJo:CfOk prog gI_CJo.c:=⟨gam_cons ok_FMul <| gam_nil,fun _ _ h=>by cases h⟩
theorem ok_Jn:CallOk prog nF128 sJn:=by
 refine afunc_okE (g:=gI_CJo) (fu:=fun _=>0) mixed gok_CJo hF128 (by kernel_rfl) ?_
 intro args t ht
 obtain ⟨e,f,g,h,rfl,he,hf,hg,hh,rfl⟩:=runF4_ok (F:=joinP) ht
 have m1:=run_FMul he hf
 have m2:=run_FMul hg hh
 have m3:=run_FMul hf hg
 have m4:=run_FMul he hh
 simp only [eF] at m1 m2 m3 m4
 refine (CJo_ev ..).trans ?_
 rw [m1,Option.bind_some,m2,Option.bind_some,m3,Option.bind_some,m4,Option.bind_some]
 rfl
theorem run_Jn {e f g h:Fe} (he:fOk e) (hf:fOk f) (hg:fOk g) (hh:fOk h):rJn [eF e,eF f,eF g,eF h]=some (joinP e f g h):=by
 simp only [rJn,sJn]; exact run_F4 joinP he hf hg hh
abbrev gI_Cad:Cg:=g_Cad (Fe) rFSub (fun t=>↑t.a) (fun t=>↑t.b) (fun t=>↑t.c) (fun t=>↑t.d) (fun t=>↑t.e) (Fe) rFMul (fun t=>↑t.a) (fun t=>↑t.b) (fun t=>↑t.c) (fun t=>↑t.d) (fun t=>↑t.e) (Fe) rFAdd (fun t=>↑t.a) (fun t=>↑t.b) (fun t=>↑t.c) (fun t=>↑t.d) (fun t=>↑t.e) (Pt) rJn (fun t=>[↑t.x.a,↑t.x.b,↑t.x.c,↑t.x.d,↑t.x.e,↑t.y.a,↑t.y.b,↑t.y.c,↑t.y.d,↑t.y.e,↑t.z.a,↑t.z.b,↑t.z.c,↑t.z.d,↑t.z.e,↑t.t.a,↑t.t.b,↑t.t.c,↑t.t.d,↑t.t.e])
theorem gok_Cad:CfOk prog gI_Cad.c:=⟨gam_cons ok_FSub <| gam_cons ok_FMul <| gam_cons ok_FAdd <| gam_cons ok_Jn <| gam_nil,fun _ _ h=>by cases h⟩
theorem ok_add:CallOk prog nF101 sadd:=by
 refine afunc_okE (g:=gI_Cad) (fu:=fun _=>0) mixed gok_Cad hF101 (by kernel_rfl) ?_
 intro args t ht
 obtain ⟨p,q,u,rfl,⟨h1,h2,h3,h4⟩,⟨k1,k2,k3,k4⟩,hu,rfl⟩:=runP2F_ok (F:=addP) ht
 have s1:=run_FSub h2 h1
 have s2:=run_FSub k2 k1
 have m1:=run_FMul (x:=subF p.y p.x) (y:=subF q.y q.x) (sub_ok h2) (sub_ok k2)
 have a1:=run_FAdd h2 h1
 have a2:=run_FAdd k2 k1
 have m2:=run_FMul (add_ok h2 h1) (add_ok k2 k1)
 have m3:=run_FMul h4 hu
 have m4:=run_FMul (mul_ok h4 hu) k4
 have a3:=run_FAdd h3 h3
 have m5:=run_FMul (add_ok h3 h3) k3
 have ka:=mul_ok (x:=subF p.y p.x) (y:=subF q.y q.x) (sub_ok h2) (sub_ok k2)
 have kb:=mul_ok (add_ok h2 h1) (add_ok k2 k1)
 have kc:=mul_ok (mul_ok h4 hu) k4
 have kd:=mul_ok (add_ok h3 h3) k3
 have s3:=run_FSub kb ka
 have s4:=run_FSub kd kc
 have a4:=run_FAdd kd kc
 have a5:=run_FAdd kb ka
 have j:=run_Jn (sub_ok (y:=mulF (subF p.y p.x) (subF q.y q.x)) kb) (sub_ok (y:=mulF (mulF p.t u) q.t) kd) (add_ok kd kc) (add_ok kb ka)
 simp only [eF] at s1 s2 m1 a1 a2 m2 m3 m4 a3 m5 s3 s4 a4 a5 j
 refine (Cad_ev ..).trans ?_
 simp only [List.drop_succ_cons,List.drop_zero,List.take_succ_cons,List.take_zero]
 rw [s1,Option.bind_some,s2,Option.bind_some,m1,Option.bind_some,a1,Option.bind_some,a2,Option.bind_some,m2,Option.bind_some,m3,Option.bind_some,m4,Option.bind_some,a3,Option.bind_some,m5,Option.bind_some,s3,Option.bind_some,s4,Option.bind_some,a4,Option.bind_some,a5,Option.bind_some,j,Option.bind_some]
 rfl
theorem run_add {p q:Pt} {u:Fe} (h:pOk p) (k:pOk q) (hu:fOk u):radd [eP p,eP q,eF u]=some (addP p q u):=by
 simp only [radd,sadd]; exact run_P2F addP h k hu
theorem eF_dF:eF dF=AV.agg (.ints .u64 [929955233495203,466365720129213,1662059464998953,2033849074728123,1442794654840575]) 5:=by kernel_rfl
abbrev gI_CAd:Cg:=g_CAd (PUnit) rCD (Fe) rFAdd (fun t=>↑t.a) (fun t=>↑t.b) (fun t=>↑t.c) (fun t=>↑t.d) (fun t=>↑t.e) (Pt) radd (fun t=>[↑t.x.a,↑t.x.b,↑t.x.c,↑t.x.d,↑t.x.e,↑t.y.a,↑t.y.b,↑t.y.c,↑t.y.d,↑t.y.e,↑t.z.a,↑t.z.b,↑t.z.c,↑t.z.d,↑t.z.e,↑t.t.a,↑t.t.b,↑t.t.c,↑t.t.d,↑t.t.e])
theorem gok_CAd:CfOk prog gI_CAd.c:=⟨gam_cons ok_CD <| gam_cons ok_FAdd <| gam_cons ok_add <| gam_nil,fun _ _ h=>by cases h⟩
theorem ok_PAdd:CallOk prog nF60 sPAdd:=by
 refine afunc_okE (g:=gI_CAd) (fu:=fun _=>0) mixed gok_CAd hF60 (by kernel_rfl) ?_
 intro args t ht
 obtain ⟨p,q,rfl,hp,hq,rfl⟩:=runP2_ok (F:=fun p q=>addP p q d2F) ht
 have a:=run_FAdd dF_ok dF_ok
 rw [eF_dF] at a
 have m:=run_add hp hq d2_ok
 simp only [eP,eF] at m
 refine (CAd_ev ..).trans ?_
 rw [show rCD []=some () from rfl,Option.bind_some,Option.bind_some,a,Option.bind_some]
 refine (congrArg (fun o=>Option.bind o _) m).trans ?_
 rfl
theorem run_PAdd {p q:Pt} (h:pOk p) (k:pOk q):rPAdd [eP p,eP q]=some (addP p q d2F):=by
 simp only [rPAdd,sPAdd]; exact run_P2 (fun p q=>addP p q d2F) h k
set_option maxRecDepth 4000
abbrev gI_CDb:Cg:=g_CDb (Fe) rFSq (fun t=>↑t.a) (fun t=>↑t.b) (fun t=>↑t.c) (fun t=>↑t.d) (fun t=>↑t.e) (Fe) rFAdd (fun t=>↑t.a) (fun t=>↑t.b) (fun t=>↑t.c) (fun t=>↑t.d) (fun t=>↑t.e) (Fe) rFSub (fun t=>↑t.a) (fun t=>↑t.b) (fun t=>↑t.c) (fun t=>↑t.d) (fun t=>↑t.e) (Pt) rJn (fun t=>[↑t.x.a,↑t.x.b,↑t.x.c,↑t.x.d,↑t.x.e,↑t.y.a,↑t.y.b,↑t.y.c,↑t.y.d,↑t.y.e,↑t.z.a,↑t.z.b,↑t.z.c,↑t.z.d,↑t.z.e,↑t.t.a,↑t.t.b,↑t.t.c,↑t.t.d,↑t.t.e])
theorem gok_CDb:CfOk prog gI_CDb.c:=⟨gam_cons ok_FSq <| gam_cons ok_FAdd <| gam_cons ok_FSub <| gam_cons ok_Jn <| gam_nil,fun _ _ h=>by cases h⟩
theorem ok_Dbl:CallOk prog nF113 sDbl:=by
 refine afunc_okE (g:=gI_CDb) (fu:=fun _=>0) mixed gok_CDb hF113 (by kernel_rfl) ?_
 intro args t ht
 obtain ⟨p,rfl,⟨h1,h2,h3,h4⟩,rfl⟩:=runP1_ok (F:=dblP) ht
 have q1:=run_FSq h1
 have q2:=run_FSq h2
 have q3:=run_FSq h3
 have ka:=mul_ok h1 h1
 have kb:=mul_ok h2 h2
 have kz:=mul_ok h3 h3
 have a1:=run_FAdd ka kb
 have s1:=run_FSub ka kb
 have a2:=run_FAdd h1 h2
 have q4:=run_FSq (add_ok h1 h2)
 have kq:=mul_ok (add_ok h1 h2) (add_ok h1 h2)
 have s2:=run_FSub (add_ok ka kb) kq
 have a3:=run_FAdd kz kz
 have ks:fOk (subF (mulF p.x p.x) (mulF p.y p.y)):=sub_ok ka
 have a4:=run_FAdd (add_ok kz kz) ks
 have j:=run_Jn (sub_ok (y:=mulF (addF p.x p.y) (addF p.x p.y)) (add_ok ka kb)) (add_ok (add_ok kz kz) ks) ks (add_ok ka kb)
 simp only [eF] at q1 q2 q3 a1 s1 a2 q4 s2 a3 a4 j
 refine (CDb_ev ..).trans ?_
 simp only [List.drop_succ_cons,List.drop_zero,List.take_succ_cons,List.take_zero]
 rw [q1,Option.bind_some,q2,Option.bind_some,q3,Option.bind_some,a1,Option.bind_some,s1,Option.bind_some,a2,Option.bind_some,q4,Option.bind_some,s2,Option.bind_some,a3,Option.bind_some,a4,Option.bind_some,j,Option.bind_some]
 rfl
theorem run_Dbl {p:Pt} (h:pOk p):rDbl [eP p]=some (dblP p):=by
 simp only [rDbl,sDbl]; exact run_P1 dblP h
abbrev gI_CPN:Cg:=g_CPN (Fe) rFNeg (fun t=>↑t.a) (fun t=>↑t.b) (fun t=>↑t.c) (fun t=>↑t.d) (fun t=>↑t.e)
theorem gok_CPN:CfOk prog gI_CPN.c:=⟨gam_cons ok_FNeg <| gam_nil,fun _ _ h=>by cases h⟩
theorem ok_PNeg:CallOk prog nF167 sPNeg:=by
 refine afunc_okE (g:=gI_CPN) (fu:=fun _=>0) mixed gok_CPN hF167 (by kernel_rfl) ?_
 intro args t ht
 obtain ⟨p,rfl,⟨h1,h2,h3,h4⟩,rfl⟩:=runP1_ok (F:=negP) ht
 have n1:=run_FNeg h1
 have n2:=run_FNeg h4
 simp only [eF] at n1 n2
 refine (CPN_ev ..).trans ?_
 simp only [List.drop_succ_cons,List.drop_zero,List.take_succ_cons,List.take_zero]
 rw [n1,Option.bind_some,n2,Option.bind_some]
 rfl
theorem run_PNeg {p:Pt} (h:pOk p):rPNeg [eP p]=some (negP p):=by
 simp only [rPNeg,sPNeg]; exact run_P1 negP h
theorem inv_okP {x:Fe} (hx:fOk x):fOk (invF x):=pow_ok hx (fe_ok 1)
abbrev gI_CPY:Cg:=g_CPY (Fe) rInv (fun t=>↑t.a) (fun t=>↑t.b) (fun t=>↑t.c) (fun t=>↑t.d) (fun t=>↑t.e) (Fe) rFMul (fun t=>↑t.a) (fun t=>↑t.b) (fun t=>↑t.c) (fun t=>↑t.d) (fun t=>↑t.e)
theorem gok_CPY:CfOk prog gI_CPY.c:=⟨gam_cons ok_Inv <| gam_cons ok_FMul <| gam_nil,fun _ _ h=>by cases h⟩
theorem ok_PY:CallOk prog nF169 sPY:=by
 refine afunc_okE (g:=gI_CPY) (fu:=fun _=>0) mixed gok_CPY hF169 (by kernel_rfl) ?_
 intro args t ht
 obtain ⟨p,rfl,⟨h1,h2,h3,h4⟩,rfl⟩:=runP1_ok (F:=fun p=>mulF p.y (invF p.z)) ht
 have i:=run_Inv h3
 have m:=run_FMul (y:=invF p.z) h2 (inv_okP h3)
 simp only [eF] at i m
 refine (CPY_ev ..).trans ?_
 simp only [List.drop_succ_cons,List.drop_zero,List.take_succ_cons,List.take_zero]
 rw [i,Option.bind_some,m,Option.bind_some]
 rfl
theorem run_PY {p:Pt} (h:pOk p):rPY [eP p]=some (mulF p.y (invF p.z)):=by
 simp only [rPY,sPY]; exact run_P1 (fun p=>mulF p.y (invF p.z)) h
abbrev gI_CPS:Cg:=g_CPS (Fe) rFMul (fun t=>↑t.a) (fun t=>↑t.b) (fun t=>↑t.c) (fun t=>↑t.d) (fun t=>↑t.e) (Bool) rSam (fun t=>t)
theorem gok_CPS:CfOk prog gI_CPS.c:=⟨gam_cons ok_FMul <| gam_cons ok_Sam <| gam_nil,fun _ _ h=>by cases h⟩
theorem ok_PSam:CallOk prog nF168 sPSam:=by
 refine afunc_okE (g:=gI_CPS) (fu:=fun _=>0) mixed gok_CPS hF168 (by kernel_rfl) ?_
 intro args t ht
 obtain ⟨p,q,rfl,⟨h1,h2,h3,h4⟩,⟨k1,k2,k3,k4⟩,rfl⟩:=runP2_ok (F:=samP) ht
 have m1:=run_FMul h1 k3
 have m2:=run_FMul k1 h3
 have e1:=run_Sam (mul_ok h1 k3) (mul_ok k1 h3)
 have m3:=run_FMul h2 k3
 have m4:=run_FMul k2 h3
 have e2:=run_Sam (mul_ok h2 k3) (mul_ok k2 h3)
 simp only [eF] at m1 m2 e1 m3 m4 e2
 refine (CPS_ev ..).trans ?_
 simp only [List.drop_succ_cons,List.drop_zero,List.take_succ_cons,List.take_zero]
 rw [m1,Option.bind_some,m2,Option.bind_some,e1,Option.bind_some]
 show _=some (AV.bool (samP p q))
 rw [samP]
 cases samF (mulF p.x q.z) (mulF q.x p.z)
 ·rfl
 ·rw [cond_true,m3,Option.bind_some,m4,Option.bind_some,e2,Option.bind_some]; rfl
theorem run_PSam {p q:Pt} (h:pOk p) (k:pOk q):rPSam [eP p,eP q]=some (samP p q):=by
 simp only [rPSam,sPSam]; exact run_P2 samP h k
theorem ratR_okP {u v:Fe} (hu:fOk u) (hv:fOk v):fOk (ratR u v) :=
 have h3:=mul_ok (mul_ok hv hv) hv
 mul_ok (mul_ok hu h3) (pow_ok (mul_ok hu (mul_ok (mul_ok h3 h3) hv)) (fe_ok 1))
theorem rat_okP {u v:Fe} (hu:fOk u) (hv:fOk v):fOk (ratF u v).1:=by
 unfold ratF
 refine abs_okF ?_
 cases (samF (mulF v (mulF (ratR u v) (ratR u v))) (subF f0 u) || samF (mulF v (mulF (ratR u v) (ratR u v))) (mulF (subF f0 u) iF))
 ·exact ratR_okP hu hv
 ·exact mul_ok (ratR_okP hu hv) iF_ok
theorem baseN_ok:fOk (subF (mulF baseY baseY) (fe 1)):=sub_ok (mul_ok baseY_ok baseY_ok)
theorem baseD_ok:fOk (addF (mulF dF (mulF baseY baseY)) (fe 1)):=add_ok (mul_ok dF_ok (mul_ok baseY_ok baseY_ok)) (fe_ok 1)
theorem baseX_ok:fOk baseX:=rat_okP baseN_ok baseD_ok
theorem base_ok:pOk baseP:=plain_ok baseX_ok baseY_ok
abbrev gI_CBa:Cg:=g_CBa (Fe) rFOf (fun t=>↑t.a) (fun t=>↑t.b) (fun t=>↑t.c) (fun t=>↑t.d) (fun t=>↑t.e) (Fe) rInv (fun t=>↑t.a) (fun t=>↑t.b) (fun t=>↑t.c) (fun t=>↑t.d) (fun t=>↑t.e) (Fe) rFMul (fun t=>↑t.a) (fun t=>↑t.b) (fun t=>↑t.c) (fun t=>↑t.d) (fun t=>↑t.e) (Fe) rFSq (fun t=>↑t.a) (fun t=>↑t.b) (fun t=>↑t.c) (fun t=>↑t.d) (fun t=>↑t.e) (Fe) rFSub (fun t=>↑t.a) (fun t=>↑t.b) (fun t=>↑t.c) (fun t=>↑t.d) (fun t=>↑t.e) (PUnit) rCD (Fe) rFAdd (fun t=>↑t.a) (fun t=>↑t.b) (fun t=>↑t.c) (fun t=>↑t.d) (fun t=>↑t.e) (Fe × Bool) rFRat (fun t=>↑t.fst.a) (fun t=>↑t.fst.b) (fun t=>↑t.fst.c) (fun t=>↑t.fst.d) (fun t=>↑t.fst.e) (fun t=>t.snd) (Pt) rPlain (fun t=>[↑t.x.a,↑t.x.b,↑t.x.c,↑t.x.d,↑t.x.e,↑t.y.a,↑t.y.b,↑t.y.c,↑t.y.d,↑t.y.e,↑t.z.a,↑t.z.b,↑t.z.c,↑t.z.d,↑t.z.e,↑t.t.a,↑t.t.b,↑t.t.c,↑t.t.d,↑t.t.e])
theorem gok_CBa:CfOk prog gI_CBa.c:=⟨gam_cons ok_FOf <| gam_cons ok_Inv <| gam_cons ok_FMul <| gam_cons ok_FSq <| gam_cons ok_FSub <| gam_cons ok_CD <| gam_cons ok_FAdd <| gam_cons ok_FRat <| gam_cons ok_Plain <| gam_nil,fun _ _ h=>by cases h⟩
theorem ok_Base:CallOk prog nF72 sBase:=by
 refine afunc_okE (g:=gI_CBa) (fu:=fun _=>0) mixed gok_CBa hF72 (by kernel_rfl) ?_
 intro args t ht
 unfold sBase run0 at ht
 simp only at ht
 split at ht
 ·have ht:=Option.some.inj ht
  subst ht
  have o4:=run_FOf (n:=4) (by decide)
  have o5:=run_FOf (n:=5) (by decide)
  have o1:=run_FOf (n:=1) (by decide)
  rw [show ((4:Nat):Int)=4 from rfl] at o4
  rw [show ((5:Nat):Int)=5 from rfl] at o5
  rw [show ((1:Nat):Int)=1 from rfl] at o1
  have i:=run_Inv (fe_ok 5)
  have m:rFMul [eF (fe 4),eF (invF (fe 5))]=some baseY:=run_FMul (fe_ok 4) (inv_okP (fe_ok 5))
  have q:=run_FSq baseY_ok
  have kq:=mul_ok baseY_ok baseY_ok
  have s:=run_FSub kq (fe_ok 1)
  have m2:=run_FMul dF_ok kq
  rw [eF_dF] at m2
  have a:=run_FAdd (mul_ok dF_ok kq) (fe_ok 1)
  have r:=run_FRat baseN_ok baseD_ok
  have pl:rPlain [eF (ratF (subF (mulF baseY baseY) (fe 1)) (addF (mulF dF (mulF baseY baseY)) (fe 1))).1,eF baseY]=some baseP:=run_Plain baseX_ok baseY_ok
  simp only [eF] at i m q s m2 a r pl
  refine (CBa_ev ..).trans ?_
  rw [o4,Option.bind_some,o5,Option.bind_some,i,Option.bind_some,m,Option.bind_some,o1,Option.bind_some,q,Option.bind_some,s,Option.bind_some,show rCD []=some () from rfl,Option.bind_some,Option.bind_some,m2,Option.bind_some,a,Option.bind_some,r,Option.bind_some,pl,Option.bind_some]
  rfl
 ·cases ht
theorem run_Base:rBase []=some baseP:=rfl
set_option maxRecDepth 4000
abbrev gI_CAw7:Cg:=g_CAw7 (PUnit) rTrue (PUnit) rTrue (Pt) rBase (fun t=>[↑t.x.a,↑t.x.b,↑t.x.c,↑t.x.d,↑t.x.e,↑t.y.a,↑t.y.b,↑t.y.c,↑t.y.d,↑t.y.e,↑t.z.a,↑t.z.b,↑t.z.c,↑t.z.d,↑t.z.e,↑t.t.a,↑t.t.b,↑t.t.c,↑t.t.d,↑t.t.e]) (Pt) rPNeg (fun t=>[↑t.x.a,↑t.x.b,↑t.x.c,↑t.x.d,↑t.x.e,↑t.y.a,↑t.y.b,↑t.y.c,↑t.y.d,↑t.y.e,↑t.z.a,↑t.z.b,↑t.z.c,↑t.z.d,↑t.z.e,↑t.t.a,↑t.t.b,↑t.t.c,↑t.t.d,↑t.t.e]) (Pt) rPAdd (fun t=>[↑t.x.a,↑t.x.b,↑t.x.c,↑t.x.d,↑t.x.e,↑t.y.a,↑t.y.b,↑t.y.c,↑t.y.d,↑t.y.e,↑t.z.a,↑t.z.b,↑t.z.c,↑t.z.d,↑t.z.e,↑t.t.a,↑t.t.b,↑t.t.c,↑t.t.d,↑t.t.e]) (Pt) rNeut (fun t=>[↑t.x.a,↑t.x.b,↑t.x.c,↑t.x.d,↑t.x.e,↑t.y.a,↑t.y.b,↑t.y.c,↑t.y.d,↑t.y.e,↑t.z.a,↑t.z.b,↑t.z.c,↑t.z.d,↑t.z.e,↑t.t.a,↑t.t.b,↑t.t.c,↑t.t.d,↑t.t.e]) (Bool) rPSam (fun t=>t) (Fe) rPY (fun t=>[↑t.a,↑t.b,↑t.c,↑t.d,↑t.e]) (Fe) rFOf (fun t=>↑t.a) (fun t=>↑t.b) (fun t=>↑t.c) (fun t=>↑t.d) (fun t=>↑t.e) (Fe) rFMul (fun t=>↑t.a) (fun t=>↑t.b) (fun t=>↑t.c) (fun t=>↑t.d) (fun t=>↑t.e) (Bool) rSam (fun t=>t)
theorem gok_CAw7:CfOk prog gI_CAw7.c:=⟨gam_cons ok_Awake05 <| gam_cons ok_Awake06 <| gam_cons ok_Base <| gam_cons ok_PNeg <| gam_cons ok_PAdd <| gam_cons ok_Neut <| gam_cons ok_PSam <| gam_cons ok_PY <| gam_cons ok_FOf <| gam_cons ok_FMul <| gam_cons ok_Sam <| gam_nil,fun _ _ h=>by cases h⟩
theorem aw7_a:samP (addP baseP (negP baseP) d2F) neutP=true:=by decide +kernel
theorem aw7_b:samP baseP neutP=false:=by decide +kernel
theorem aw7_c:samF (mulF (mulF baseP.y (invF baseP.z)) (fe 5)) (fe 4)=true:=by decide +kernel
theorem ok_awake07:CallOk prog nF149 sTrue:=by
 refine afunc_okE (g:=gI_CAw7) (fu:=fun _=>0) mixed gok_CAw7 hF149 (by kernel_rfl) ?_
 intro args t ht
 unfold sTrue at ht
 simp only at ht
 split at ht
 ·have tr:rTrue []=some ():=rfl
  have hb:=base_ok
  have b:=run_Base
  have n:=run_PNeg hb
  have a:=run_PAdd hb (negP_ok hb)
  have ne:=run_Neut
  have s1:=run_PSam (addP_ok hb (negP_ok hb) d2_ok) neut_ok
  rw [aw7_a] at s1
  have s2:=run_PSam hb neut_ok
  rw [aw7_b] at s2
  have y:=run_PY hb
  have o5:=run_FOf (n:=5) (by decide)
  have o4:=run_FOf (n:=4) (by decide)
  rw [show ((4:Nat):Int)=4 from rfl] at o4
  rw [show ((5:Nat):Int)=5 from rfl] at o5
  have ky:fOk (mulF baseP.y (invF baseP.z)):=mul_ok hb.2.1 (inv_okP hb.2.2.1)
  have m:=run_FMul ky (fe_ok 5)
  have s3:=run_Sam (mul_ok ky (fe_ok 5)) (fe_ok 4)
  rw [aw7_c] at s3
  generalize mulF baseP.y (invF baseP.z)=Y at *
  generalize addP baseP (negP baseP) d2F=A at *
  generalize negP baseP=Ng at *
  generalize baseP=Bp at *
  generalize neutP=Np at *
  simp only [eP,eF] at n a s1 s2 y m s3
  refine (CAw7_ev ..).trans ?_
  rw [tr,Option.bind_some,Option.bind_some,b,Option.bind_some,n,Option.bind_some,a,Option.bind_some,ne,Option.bind_some,s1,Option.bind_some,cond_true,Option.bind_some,s2,Option.bind_some,Bool.not_false,cond_true,y,Option.bind_some,o5,Option.bind_some,m,Option.bind_some,o4,Option.bind_some,s3,Option.bind_some]
  rfl
 ·cases ht
theorem fv_oneZ:(fv (fe 1):Int)=1:=by decide +kernel
theorem inv_one:samF (invF (fe 1)) (fe 1)=true:=by decide +kernel
theorem mul_one {x:Fe} (hx:fOk x):samF (mulF x (invF (fe 1))) x=true:=by
 refine sam_iff.2 ((cg_fmul x _).trans (((cg.refl _).mul (sam_iff.1 inv_one)).trans ?_))
 rw [fv_oneZ,Int.mul_one]
 exact cg.refl _
theorem vB_loL (n:Nat):vB (lo 32 (n%P25))=n%P25:=by
 rw [vB_lo,Nat.mod_eq_of_lt]
 exact Nat.lt_trans (modP_lt n) (by decide)
theorem ok32_loL (n:Nat):ok32 (lo 32 n)=true:=by rw [ok32,length_lo,okB_lo]; rfl
end
end Go.Eng
