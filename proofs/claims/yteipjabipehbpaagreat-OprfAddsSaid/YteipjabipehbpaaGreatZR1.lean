import Derived.Test.YteipjabipehbpaaGreatZL2
namespace Go.Eng
open Go.IntKind (u64 i64 u8)
noncomputable section
set_option linter.all false
def vB:List Int->Nat
 | []=>0
 | x :: r=>x.toNat+256*vB r
def okB:List Int->Bool
 | []=>true
 | x :: r=>decide (0 <= x /\ x < 256) && okB r
def lo:Nat->Nat->List Int
 | 0,_=>[]
 | k+1,n=>((n%256:Nat):Int) :: lo k (n / 256)
theorem length_lo (k n:Nat):(lo k n).length=k:=by
 induction k generalizing n with
 | zero=>rfl
 | succ k ih=>simp [lo,ih]
theorem okB_lo (k n:Nat):okB (lo k n)=true:=by
 induction k generalizing n with
 | zero=>rfl
 | succ k ih=>simp only [lo,okB,ih,Bool.and_true,decide_eq_true_eq]; omega
theorem vB_lo (k n:Nat):vB (lo k n)=n%256 ^ k:=by
 induction k generalizing n with
 | zero=>simp [lo,vB,Nat.mod_one]
 | succ k ih=>
  simp only [lo,vB,ih,Int.toNat_natCast]
  rw [Nat.pow_succ,Nat.mul_comm (256 ^ k),Nat.mod_mul]
theorem lo_vB:∀ a:List Int,okB a=true->lo a.length (vB a)=a:=by
 intro a
 induction a with
 | nil=>intro _; rfl
 | cons x r ih=>
  intro h
  simp only [okB,Bool.and_eq_true,decide_eq_true_eq] at h
  simp only [List.length_cons,lo,vB]
  have e1:(x.toNat+256*vB r)%256=x.toNat:=by omega
  have e2:(x.toNat+256*vB r) / 256=vB r:=by omega
  rw [e1,e2,ih h.2]
  congr 1; omega
theorem vB_lt:∀ a:List Int,okB a=true->vB a < 256 ^ a.length:=by
 intro a
 induction a with
 | nil=>intro _; simp [vB]
 | cons x r ih=>
  intro h
  simp only [okB,Bool.and_eq_true,decide_eq_true_eq] at h
  have:=ih h.2
  simp only [List.length_cons,vB,Nat.pow_succ]
  omega
theorem vB_app (a b:List Int):vB (a++b)=vB a+256 ^ a.length*vB b:=by
 induction a with
 | nil=>simp [vB]
 | cons x r ih=>
  simp only [List.cons_append,vB,ih,List.length_cons,Nat.pow_succ]
  rw [Nat.mul_add,Nat.mul_comm (256 ^ r.length) 256,Nat.mul_assoc]; omega
theorem getD_lo (k n i:Nat) (h:i < k):(lo k n).getD i 0=((n / 256 ^ i%256:Nat):Int):=by
 induction k generalizing n i with
 | zero=>omega
 | succ k ih=>
  cases i with
  | zero=>simp [lo]
  | succ i=>
   simp only [lo,List.getD_cons_succ]
   rw [ih _ _ (by omega),Nat.pow_succ,Nat.mul_comm (256 ^ i),Nat.div_div_eq_div_mul]
open Go Go.Proofs
def vS (s:Str):Nat:=vB (s.map ofB)
def strN (n v:Nat):Str:=(lo n v).map b8
def sParse:Summ where
 T:=Nat × Int
 run:=fun
  | [.c (.s (.pl (.str s)))]=>cond (decide (s.length <= 1099511627776)) (some (cond (Nat.blt 64 s.length) (0,5) (vS s,0))) none
  | _=>none
 enc:=fun t=>.tup [.s (.pl (.agg (.ints .u64 (lim 8 t.1)) 8)),.s (.pl (.int .i64 t.2))]
def rParse:List AV->Option (Nat × Int):=sParse.run
def sBytes:Summ:={ T:=Str,run:=run1 fun a=>strN 64 (val a),enc:=fun t=>.str t }
def rBytes:List AV->Option Str:=sBytes.run
section
variable (T0:Type) (R0:List AV->Option T0) (f0a:T0->Int)
def g_LZ:Cg:=⟨⟨gam [(nF126,⟨R0,fun t=>AV.int .i64 (f0a t)⟩)],[],noE⟩,[]⟩
theorem LZ_ev (fu:Nat) (x:Int):afunc prog fF182 (g_LZ T0 R0 f0a) fu [.int .u64 x]=(R0 [.int .u64 x]).bind fun t=>some (AV.int .i64 (i64.wrap ((64:Int) - f0a t))):=by kernel_rfl
end
section
variable (T0:Type) (R0:List AV->Option T0) (f0a:T0->Int)
def g_Dv:Cg:=⟨⟨gam [(nF182,⟨R0,fun t=>AV.int .i64 (f0a t)⟩)],[],noE⟩,[(18,[2,8,9,10,11,13,14,15,16],[2,8,9,10,11,13,14,15]),(25,[2,8,9,10,14,15,16,17,18],[2,8,14,15,17,18])]⟩
def Dv_s1 (v2 v8 v9 v10 v11 v13 v14 v15 v16:Int):St:={ tm:=[(2,.int .u64 v2),(8,.int .u64 v8),(9,.int .u64 v9),(10,.int .u64 v10),(11,.int .u64 v11),(13,.int .u64 v13),(14,.int .u64 v14),(15,.int .u64 v15),(16,.int .u64 v16)],hp:=[],nx:=0,sz:=135 }
def Dv_b1:Code:=bodyL (codeAt [1,1,1,1,1,1,1,1,1,1,1,1,1,1,0,2] (codeF fF181))
def Dv_k1 (fu:Nat):=kAt prog (g_Dv T0 R0 f0a) fu [1,1,1,1,1,1,1,1,1,1,1,1,1,1,0,2] (codeF fF181) (kFin prog fF181)
abbrev Dv_L1 (fu:Nat) (v2 v8 v9 v10 v11 v13 v14 v15 v16:Int):=lpA prog (g_Dv T0 R0 f0a) fu Dv_b1 (Dv_k1 T0 R0 f0a fu ) fu (some (Dv_s1 v2 v8 v9 v10 v11 v13 v14 v15 v16))
theorem Dv_ev (fu:Nat) (x y z:Int):afunc prog fF181 (g_Dv T0 R0 f0a) fu [.int .u64 x,.int .u64 y,.int .u64 z]=bif decide (z=(0:Int)) then none else bif decide (z <= x) then none else bif decide (x=(0:Int)) then bif decide (z=(0:Int)) then none else bif decide (z=(0:Int)) then none else some (AV.tup [.s (.pl (.int .u64 (u64.wrap (y.tdiv z)))),.s (.pl (.int .u64 (y.tmod z)))]) else (R0 [.int .u64 z]).bind fun t=>bif decide (u64.wrap (f0a t) < (0:Int)) then none else bif decide (u64.wrap (f0a t) < (0:Int)) then none else bif decide (u64.wrap ((64:Int) - u64.wrap (f0a t)) < (0:Int)) then none else bif decide (u64.wrap (f0a t) < (0:Int)) then none else bif decide (bShr .u64 (bShl .u64 z (u64.wrap (f0a t))) (32:Int)=(0:Int)) then none else Dv_L1 T0 R0 f0a fu (bShl .u64 z (u64.wrap (f0a t))) (u64.wrap (f0a t)) (bShr .u64 (bShl .u64 z (u64.wrap (f0a t))) (32:Int)) (bAnd .u64 (bShl .u64 z (u64.wrap (f0a t))) (4294967295:Int)) (bOr .u64 (bShl .u64 x (u64.wrap (f0a t))) (bShr .u64 y (u64.wrap ((64:Int) - u64.wrap (f0a t))))) (bShr .u64 (bShl .u64 y (u64.wrap (f0a t))) (32:Int)) (bAnd .u64 (bShl .u64 y (u64.wrap (f0a t))) (4294967295:Int)) (u64.wrap ((bOr .u64 (bShl .u64 x (u64.wrap (f0a t))) (bShr .u64 y (u64.wrap ((64:Int) - u64.wrap (f0a t))))).tdiv (bShr .u64 (bShl .u64 z (u64.wrap (f0a t))) (32:Int)))) (u64.wrap (bOr .u64 (bShl .u64 x (u64.wrap (f0a t))) (bShr .u64 y (u64.wrap ((64:Int) - u64.wrap (f0a t)))) - u64.wrap (u64.wrap ((bOr .u64 (bShl .u64 x (u64.wrap (f0a t))) (bShr .u64 y (u64.wrap ((64:Int) - u64.wrap (f0a t))))).tdiv (bShr .u64 (bShl .u64 z (u64.wrap (f0a t))) (32:Int)))*bShr .u64 (bShl .u64 z (u64.wrap (f0a t))) (32:Int)))):=by kernel_rfl
def Dv_o1e0 (v2 v8 v9 v10 v11 v13 v14 v15:Int):St:={ tm:=[(2,.int .u64 v2),(8,.int .u64 v8),(9,.int .u64 v9),(10,.int .u64 v10),(11,.int .u64 v11),(13,.int .u64 v13),(14,.int .u64 v14),(15,.int .u64 v15)],hp:=[],nx:=0,sz:=135 }
theorem Dv_r1 {β:Type} (fu:Nat) (G:Option St->Option β) (H:Ex->Option St->Option β) (v2 v8 v9 v10 v11 v13 v14 v15 v16:Int):lpR prog (g_Dv T0 R0 f0a) fu Dv_b1 G H (Dv_s1 v2 v8 v9 v10 v11 v13 v14 v15 v16)=bif decide ((4294967296:Int) <= v15) || decide (u64.wrap (u64.wrap ((4294967296:Int)*v16)+v13) < u64.wrap (v15*v10)) then bif decide ((4294967296:Int) <= u64.wrap (v16+v9)) then H (Ex.exit 0) (some (Dv_o1e0 v2 v8 v9 v10 v11 v13 v14 (u64.wrap (v15 - (1:Int))))) else G (some (Dv_s1 v2 v8 v9 v10 v11 v13 v14 (u64.wrap (v15 - (1:Int))) (u64.wrap (v16+v9)))) else H (Ex.exit 0) (some (Dv_o1e0 v2 v8 v9 v10 v11 v13 v14 v15)):=by kernel_rfl
def Dv_s2 (v2 v8 v9 v10 v14 v15 v16 v17 v18:Int):St:={ tm:=[(2,.int .u64 v2),(8,.int .u64 v8),(9,.int .u64 v9),(10,.int .u64 v10),(14,.int .u64 v14),(15,.int .u64 v15),(16,.int .u64 v16),(17,.int .u64 v17),(18,.int .u64 v18)],hp:=[],nx:=0,sz:=135 }
def Dv_b2:Code:=bodyL (codeAt [1,1,1,1,1,1,1,1,1,1,1,1,1,1,1,1,1,1,0,2] (codeF fF181))
def Dv_k2 (fu:Nat):=kAt prog (g_Dv T0 R0 f0a) fu [1,1,1,1,1,1,1,1,1,1,1,1,1,1,1,1,1,1,0,2] (codeF fF181) (kFin prog fF181)
abbrev Dv_L2 (fu:Nat) (v2 v8 v9 v10 v14 v15 v16 v17 v18:Int):=lpA prog (g_Dv T0 R0 f0a) fu Dv_b2 (Dv_k2 T0 R0 f0a fu ) fu (some (Dv_s2 v2 v8 v9 v10 v14 v15 v16 v17 v18))
theorem Dv_c1e0 (fu:Nat) (v2 v8 v9 v10 v11 v13 v14 v15:Int):Dv_k1 T0 R0 f0a fu  (Ex.exit 0) (Dv_o1e0 v2 v8 v9 v10 v11 v13 v14 v15)=bif decide (v9=(0:Int)) then none else Dv_L2 T0 R0 f0a fu v2 v8 v9 v10 v14 v15 (u64.wrap (u64.wrap (u64.wrap (u64.wrap (v11*(4294967296:Int))+v13) - u64.wrap (v15*v2)) - u64.wrap (u64.wrap ((u64.wrap (u64.wrap (u64.wrap (v11*(4294967296:Int))+v13) - u64.wrap (v15*v2))).tdiv v9)*v9))) (u64.wrap (u64.wrap (u64.wrap (v11*(4294967296:Int))+v13) - u64.wrap (v15*v2))) (u64.wrap ((u64.wrap (u64.wrap (u64.wrap (v11*(4294967296:Int))+v13) - u64.wrap (v15*v2))).tdiv v9)):=by kernel_rfl
def Dv_o2e2 (v2 v8 v14 v15 v17 v18:Int):St:={ tm:=[(2,.int .u64 v2),(8,.int .u64 v8),(14,.int .u64 v14),(15,.int .u64 v15),(17,.int .u64 v17),(18,.int .u64 v18)],hp:=[],nx:=0,sz:=135 }
theorem Dv_r2 {β:Type} (fu:Nat) (G:Option St->Option β) (H:Ex->Option St->Option β) (v2 v8 v9 v10 v14 v15 v16 v17 v18:Int):lpR prog (g_Dv T0 R0 f0a) fu Dv_b2 G H (Dv_s2 v2 v8 v9 v10 v14 v15 v16 v17 v18)=bif decide ((4294967296:Int) <= v18) || decide (u64.wrap (u64.wrap ((4294967296:Int)*v16)+v14) < u64.wrap (v18*v10)) then bif decide ((4294967296:Int) <= u64.wrap (v16+v9)) then H (Ex.exit 2) (some (Dv_o2e2 v2 v8 v14 v15 v17 (u64.wrap (v18 - (1:Int))))) else G (some (Dv_s2 v2 v8 v9 v10 v14 v15 (u64.wrap (v16+v9)) v17 (u64.wrap (v18 - (1:Int))))) else H (Ex.exit 2) (some (Dv_o2e2 v2 v8 v14 v15 v17 v18)):=by kernel_rfl
theorem Dv_c2e2 (fu:Nat) (v2 v8 v14 v15 v17 v18:Int):Dv_k2 T0 R0 f0a fu  (Ex.exit 2) (Dv_o2e2 v2 v8 v14 v15 v17 v18)=bif decide (v8 < (0:Int)) then none else some (AV.tup [.s (.pl (.int .u64 (u64.wrap (u64.wrap (v15*(4294967296:Int))+v18)))),.s (.pl (.int .u64 (bShr .u64 (u64.wrap (u64.wrap (u64.wrap (v17*(4294967296:Int))+v14) - u64.wrap (v18*v2))) v8)))]):=by kernel_rfl
end
section
variable (T0:Type) (R0:List AV->Option T0) (f0a f0b:T0->Int)
def g_Sm:Cg:=⟨⟨gam [(nF181,⟨R0,fun t=>AV.tup [.s (.pl (.int .u64 (f0a t))),.s (.pl (.int .u64 (f0b t)))]⟩)],[],noE⟩,[(4,[1,2,4,5],[1,2,4]),(1000004,[9],[])]⟩
theorem Sm_ev (fu:Nat) (a0 a1 a2 a3 a4 a5 a6 a7:Int):afunc prog fF176 (g_Sm T0 R0 f0a f0b) fu [W8 [a0,a1,a2,a3,a4,a5,a6,a7]]=(R0 [.int .u64 (0:Int),.int .u64 a7,.int .u64 (10:Int)]).bind fun t=>(R0 [.int .u64 (f0b t),.int .u64 a6,.int .u64 (10:Int)]).bind fun t_1=>(R0 [.int .u64 (f0b t_1),.int .u64 a5,.int .u64 (10:Int)]).bind fun t_2=>(R0 [.int .u64 (f0b t_2),.int .u64 a4,.int .u64 (10:Int)]).bind fun t_3=>(R0 [.int .u64 (f0b t_3),.int .u64 a3,.int .u64 (10:Int)]).bind fun t_4=>(R0 [.int .u64 (f0b t_4),.int .u64 a2,.int .u64 (10:Int)]).bind fun t_5=>(R0 [.int .u64 (f0b t_5),.int .u64 a1,.int .u64 (10:Int)]).bind fun t_6=>(R0 [.int .u64 (f0b t_6),.int .u64 a0,.int .u64 (10:Int)]).bind fun t_7=>some (AV.tup [.s (.pl (.agg (.ints .u64 [f0a t_7,f0a t_6,f0a t_5,f0a t_4,f0a t_3,f0a t_2,f0a t_1,f0a t]) 8)),.s (.pl (.int .u8 (u8.wrap (f0b t_7))))]):=by kernel_rfl
end
section
variable (T0:Type) (R0:List AV->Option T0) (f0a:T0->List Int) (f0b:T0->Int)
def g_Dg:Cg:=⟨⟨gam [(nF176,⟨R0,fun t=>AV.tup [.s (.pl (.agg (.ints .u64 (f0a t)) 8)),.s (.pl (.int .u8 (f0b t)))]⟩)],[3],efs [(nF177,(effOf E_rev))]⟩,[(3,[1,3],[2])]⟩
def Dg_s1 (n3:Nat) (x_0:List Int) (m_1:Nat) (x_1:List Int):St:={ tm:=[(1,.s (.ptr 0 0 8)),(3,.s (.own 1 n3 1))],hp:=[(0,{ ty:=27,n:=8,row:=Row.t (.ints .u64 x_0) }),(1,{ ty:=5,n:=m_1,row:=Row.t (.ints .u8 x_1) })],nx:=2,sz:=22 }
def Dg_b1:Code:=bodyL (codeAt [1,1,2] (codeF fF164))
def Dg_k1 (fu:Nat):=kAt prog (g_Dg T0 R0 f0a f0b) fu [1,1,2] (codeF fF164) (kFin prog fF164)
abbrev Dg_L1 (fu:Nat) (n3:Nat) (x_0:List Int) (m_1:Nat) (x_1:List Int):=lpA prog (g_Dg T0 R0 f0a f0b) fu Dg_b1 (Dg_k1 T0 R0 f0a f0b fu ) fu (some (Dg_s1 n3 x_0 m_1 x_1))
theorem Dg_ev (fu:Nat) (a:List Int):afunc prog fF164 (g_Dg T0 R0 f0a f0b) fu [W8 a]=Dg_L1 T0 R0 f0a f0b fu 0 a 0 []:=by kernel_rfl
def Dg_o1r (s2:List UInt8):St:={ tm:=[(2,.str s2)],hp:=[],nx:=0,sz:=22 }
theorem Dg_r1 {β:Type} (fu:Nat) (G:Option St->Option β) (H:Ex->Option St->Option β) (n3:Nat) (x_0:List Int) (m_1:Nat) (x_1:List Int):lpR prog (g_Dg T0 R0 f0a f0b) fu Dg_b1 G H (Dg_s1 n3 x_0 m_1 x_1)=(R0 [.agg (.ints .u64 x_0) 8]).bind fun t=>bif decide (n3+1 <= 1099511627776) then bif decide (f0a t=[(0:Int),0,0,0,0,0,0,0]) then bif decide (n3+1 <= 1099511627776) then H Ex.ret (some (Dg_o1r (List.map b8 (x_1++[u8.wrap ((48:Int)+f0b t)]).reverse))) else none else G (some (Dg_s1 (n3+1) (f0a t) ((n3+1)*1) (x_1++[u8.wrap ((48:Int)+f0b t)]))) else none:=by kernel_rfl
theorem Dg_c1r (fu:Nat) (s2:List UInt8):Dg_k1 T0 R0 f0a f0b fu  Ex.ret (Dg_o1r s2)=some (AV.str s2):=by kernel_rfl
end
section
variable (T0:Type) (R0:List AV->Option T0) (f0a:T0->List Int) (T1:Type) (R1:List AV->Option T1) (f1a:T1->List Int) (f1b:T1->Bool) (T2:Type) (R2:List AV->Option T2) (f2a:T2->List Int) (f2b:T2->Bool)
def g_Dc:Cg:=⟨⟨gam [(nF79,⟨R0,fun t=>AV.agg (.ints .u64 (f0a t)) 8⟩),(nF57,⟨R1,fun t=>AV.tup [.s (.pl (.agg (.ints .u64 (f1a t)) 8)),.s (.pl (.bool (f1b t)))]⟩),(nF49,⟨R2,fun t=>AV.tup [.s (.pl (.agg (.ints .u64 (f2a t)) 8)),.s (.pl (.bool (f2b t)))]⟩)],[],noE⟩,[(6,[0,2,4,25,26],[0,2,3,4]),(12,[0,2,4,42,43],[2,3,4])]⟩
def Dc_s1 (s0:Str) (v25 v26:Int) (x_0 x_1:List Int):St:={ tm:=[(0,.str s0),(2,.s (.ptr 0 0 8)),(4,.s (.ptr 1 0 8)),(25,.int .i64 v25),(26,.int .i64 v26)],hp:=[(0,{ ty:=27,n:=8,row:=Row.t (.ints .u64 x_0) }),(1,{ ty:=27,n:=8,row:=Row.t (.ints .u64 x_1) })],nx:=2,sz:=73 }
def Dc_b1:Code:=bodyL (codeAt [1,1,1,0,1,2] (codeF fF122))
def Dc_k1 (fu:Nat):=kAt prog (g_Dc T0 R0 f0a T1 R1 f1a f1b T2 R2 f2a f2b) fu [1,1,1,0,1,2] (codeF fF122) (kFin prog fF122)
abbrev Dc_L1 (fu:Nat) (s0:Str) (v25 v26:Int) (x_0 x_1:List Int):=lpA prog (g_Dc T0 R0 f0a T1 R1 f1a f1b T2 R2 f2a f2b) fu Dc_b1 (Dc_k1 T0 R0 f0a T1 R1 f1a f1b T2 R2 f2a f2b fu ) fu (some (Dc_s1 s0 v25 v26 x_0 x_1))
theorem Dc_ev (fu:Nat) (s:Str):afunc prog fF122 (g_Dc T0 R0 f0a T1 R1 f1a f1b T2 R2 f2a f2b) fu [.str s]=bif decide (s=[]) then some (AV.tup [.s (.pl (.agg (.ints .u64 [(0:Int),0,0,0,0,0,0,0]) 8)),.s (.pl (.int .i64 (4:Int)))]) else bif decide ((1:Int) < (↑(List.length s):Int)) then bif decide ((0:Int) <= (0:Int) /\ (0:Int) < (↑(List.length s):Int)) then bif decide ((↑(List.getD s (Int.toNat (0:Int)) (0:UInt8)).toNat:Int)=(48:Int)) then some (AV.tup [.s (.pl (.agg (.ints .u64 [(0:Int),0,0,0,0,0,0,0]) 8)),.s (.pl (.int .i64 (4:Int)))]) else Dc_L1 T0 R0 f0a T1 R1 f1a f1b T2 R2 f2a f2b fu s (↑(List.length s):Int) (0:Int) [(0:Int),0,0,0,0,0,0,0] [(0:Int),0,0,0,0,0,0,0] else none else Dc_L1 T0 R0 f0a T1 R1 f1a f1b T2 R2 f2a f2b fu s (↑(List.length s):Int) (0:Int) [(0:Int),0,0,0,0,0,0,0] [(0:Int),0,0,0,0,0,0,0]:=by kernel_rfl
def Dc_o1r (s0:Str) (v3:Int) (x_0 x_1:List Int):St:={ tm:=[(0,.str s0),(2,.s (.ptr 0 0 8)),(3,.int .i64 v3),(4,.s (.ptr 1 0 8))],hp:=[(0,{ ty:=27,n:=8,row:=Row.t (.ints .u64 x_0) }),(1,{ ty:=27,n:=8,row:=Row.t (.ints .u64 x_1) })],nx:=2,sz:=73 }
def Dc_o1e0 (s0:Str) (x_0 x_1:List Int):St:={ tm:=[(0,.str s0),(2,.s (.ptr 0 0 8)),(3,.s SV.junk),(4,.s (.ptr 1 0 8))],hp:=[(0,{ ty:=27,n:=8,row:=Row.t (.ints .u64 x_0) }),(1,{ ty:=27,n:=8,row:=Row.t (.ints .u64 x_1) })],nx:=2,sz:=73 }
theorem Dc_r1 {β:Type} (fu:Nat) (G:Option St->Option β) (H:Ex->Option St->Option β) (s0:Str) (v25 v26:Int) (x_0 x_1:List Int):lpR prog (g_Dc T0 R0 f0a T1 R1 f1a f1b T2 R2 f2a f2b) fu Dc_b1 G H (Dc_s1 s0 v25 v26 x_0 x_1)=bif decide (v26 < v25) then bif decide ((0:Int) <= v26 /\ v26 < (↑(List.length s0):Int)) then bif decide ((↑(List.getD s0 v26.toNat (0:UInt8)).toNat:Int) < (48:Int)) then H Ex.ret (some (Dc_o1r s0 (4:Int) [(0:Int),0,0,0,0,0,0,0] x_1)) else bif decide ((0:Int) <= v26 /\ v26 < (↑(List.length s0):Int)) then bif decide ((57:Int) < (↑(List.getD s0 v26.toNat (0:UInt8)).toNat:Int)) then H Ex.ret (some (Dc_o1r s0 (4:Int) [(0:Int),0,0,0,0,0,0,0] x_1)) else G (some (Dc_s1 s0 v25 (i64.wrap (v26+(1:Int))) x_0 x_1)) else none else none else H (Ex.exit 0) (some (Dc_o1e0 s0 x_0 x_1)):=by kernel_rfl
theorem Dc_c1r (fu:Nat) (s0:Str) (v3:Int) (x_0 x_1:List Int):Dc_k1 T0 R0 f0a T1 R1 f1a f1b T2 R2 f2a f2b fu  Ex.ret (Dc_o1r s0 v3 x_0 x_1)=some (AV.tup [.s (.pl (.agg (.ints .u64 x_0) 8)),.s (.pl (.int .i64 v3))]):=by kernel_rfl
def Dc_s2 (s0:Str) (v42 v43:Int) (x_0 x_1:List Int):St:={ tm:=[(0,.str s0),(2,.s (.ptr 0 0 8)),(4,.s (.ptr 1 0 8)),(42,.int .i64 v42),(43,.int .i64 v43)],hp:=[(0,{ ty:=27,n:=8,row:=Row.t (.ints .u64 x_0) }),(1,{ ty:=27,n:=8,row:=Row.t (.ints .u64 x_1) })],nx:=2,sz:=73 }
def Dc_b2:Code:=bodyL (codeAt [1,1,1,1,0,1,2] (codeF fF122))
def Dc_k2 (fu:Nat):=kAt prog (g_Dc T0 R0 f0a T1 R1 f1a f1b T2 R2 f2a f2b) fu [1,1,1,1,0,1,2] (codeF fF122) (kFin prog fF122)
abbrev Dc_L2 (fu:Nat) (s0:Str) (v42 v43:Int) (x_0 x_1:List Int):=lpA prog (g_Dc T0 R0 f0a T1 R1 f1a f1b T2 R2 f2a f2b) fu Dc_b2 (Dc_k2 T0 R0 f0a T1 R1 f1a f1b T2 R2 f2a f2b fu ) fu (some (Dc_s2 s0 v42 v43 x_0 x_1))
theorem Dc_c1e0 (fu:Nat) (s0:Str) (x_0 x_1:List Int):Dc_k1 T0 R0 f0a T1 R1 f1a f1b T2 R2 f2a f2b fu  (Ex.exit 0) (Dc_o1e0 s0 x_0 x_1)=Dc_L2 T0 R0 f0a T1 R1 f1a f1b T2 R2 f2a f2b fu s0 (↑(List.length s0):Int) (0:Int) x_0 x_1:=by kernel_rfl
def Dc_o2r (v3:Int) (x_0 x_1:List Int):St:={ tm:=[(2,.s (.ptr 0 0 8)),(3,.int .i64 v3),(4,.s (.ptr 1 0 8))],hp:=[(0,{ ty:=27,n:=8,row:=Row.t (.ints .u64 x_0) }),(1,{ ty:=27,n:=8,row:=Row.t (.ints .u64 x_1) })],nx:=2,sz:=73 }
def Dc_o2e2 (x_0 x_1:List Int):St:={ tm:=[(2,.s (.ptr 0 0 8)),(3,.s SV.junk),(4,.s (.ptr 1 0 8))],hp:=[(0,{ ty:=27,n:=8,row:=Row.t (.ints .u64 x_0) }),(1,{ ty:=27,n:=8,row:=Row.t (.ints .u64 x_1) })],nx:=2,sz:=73 }
theorem Dc_r2 {β:Type} (fu:Nat) (G:Option St->Option β) (H:Ex->Option St->Option β) (s0:Str) (v42 v43:Int) (x_0 x_1:List Int):lpR prog (g_Dc T0 R0 f0a T1 R1 f1a f1b T2 R2 f2a f2b) fu Dc_b2 G H (Dc_s2 s0 v42 v43 x_0 x_1)=bif decide (v43 < v42) then (R0 [.int .u64 (10:Int)]).bind fun t=>(R1 [.agg (.ints .u64 x_1) 8,.agg (.ints .u64 (f0a t)) 8]).bind fun t=>bif decide ((0:Int) <= v43 /\ v43 < (↑(List.length s0):Int)) then (R0 [.int .u64 (u64.wrap (u8.wrap ((↑(List.getD s0 v43.toNat (0:UInt8)).toNat:Int) - (48:Int))))]).bind fun t_1=>(R2 [.agg (.ints .u64 (f1a t)) 8,.agg (.ints .u64 (f0a t_1)) 8]).bind fun t_2=>bif !f1b t || !f2b t_2 then H Ex.ret (some (Dc_o2r (7:Int) [(0:Int),0,0,0,0,0,0,0] x_1)) else G (some (Dc_s2 s0 v42 (i64.wrap (v43+(1:Int))) x_0 (f2a t_2))) else none else H (Ex.exit 2) (some (Dc_o2e2 x_0 x_1)):=by kernel_rfl
theorem Dc_c2r (fu:Nat) (v3:Int) (x_0 x_1:List Int):Dc_k2 T0 R0 f0a T1 R1 f1a f1b T2 R2 f2a f2b fu  Ex.ret (Dc_o2r v3 x_0 x_1)=some (AV.tup [.s (.pl (.agg (.ints .u64 x_0) 8)),.s (.pl (.int .i64 v3))]):=by kernel_rfl
theorem Dc_c2e2 (fu:Nat) (x_0 x_1:List Int):Dc_k2 T0 R0 f0a T1 R1 f1a f1b T2 R2 f2a f2b fu  (Ex.exit 2) (Dc_o2e2 x_0 x_1)=some (AV.tup [.s (.pl (.agg (.ints .u64 x_1) 8)),.s (.pl (.int .i64 (0:Int)))]):=by kernel_rfl
end
def g_Aw1:Cg:=⟨⟨gam [(nF122,sDecimal),(nF164,sDigits),(nF94,sLen)],[],noE⟩,[]⟩
theorem Aw1_ev (fu:Nat):afunc prog fF147 g_Aw1 fu []=some (AV.bool (decide ((65:Int)=(65:Int)))):=by kernel_rfl
abbrev gI_LZ:Cg:=g_LZ (Nat) rLen64 (fun t=>↑t)
theorem gok_LZ:CfOk prog gI_LZ.c:=⟨gam_cons ok_Len64 <| gam_nil,fun _ _ h=>by cases h⟩
theorem ok_LZ:CallOk prog nF182 sLZ:=by
 refine afunc_okE (g:=gI_LZ) (fu:=fun _=>0) mixed gok_LZ hF182 (by kernel_rfl) ?_
 intro args t ht
 unfold sLZ at ht
 simp only at ht
 split at ht
 ·rename_i x
  obtain ⟨h1,h2⟩:=ctrue ht
  cases h2
  have hx:0 <= x /\ x < 18446744073709551616:=by simpa [in64] using h1
  obtain ⟨n,rfl⟩:=Int.eq_ofNat_of_zero_le hx.1
  refine (LZ_ev _ _ _ _ _).trans ?_
  have hb:bl n <= 64:=bl_lt (by omega:n < 2 ^ 64)
  rw [show rLen64 [AV.int u64 (n:Int)]=some (bl n) from run_Len64 n (by omega),Option.bind_some,wi64 (by omega) (by omega)]
  rw [show (64 - (bl n:Int))=((64 - bl n:Nat):Int) by omega]
  rfl
 ·cases ht
theorem run_LZ (n:Nat) (h:n < 18446744073709551616):rLZ [.int .u64 (n:Int)]=some (64 - bl n):=by
 have:in64 (n:Int)=true:=by simp [in64]; omega
 simp only [rLZ,sLZ,this,cond_true,Int.toNat_natCast]
abbrev gI_Dv:Cg:=g_Dv (Nat) rLZ (fun t=>↑t)
theorem gok_Dv:CfOk prog gI_Dv.c:=⟨gam_cons ok_LZ <| gam_nil,fun _ _ h=>by cases h⟩
theorem wu (x:Int):u64.wrap x=x%18446744073709551616:=by
 simp only [IntKind.wrap,IntKind.signed,IntKind.bits]
 simp
theorem dv_a1 (q1 rh un1:Nat) (h1:un1 < 4294967296) (hrl:rh < 2684354560) (hq:q1 < 4294967296):(decide ((4294967296:Int) <= (q1:Int)) || decide (u64.wrap (u64.wrap ((4294967296:Int)*(rh:Int))+(un1:Int)) < u64.wrap ((q1:Int)*((0:Nat):Int))))=false:=by
 have e1:u64.wrap ((q1:Int)*((0:Nat):Int))=0:=by rw [wu]; simp
 have e2:u64.wrap ((4294967296:Int)*(rh:Int))=(4294967296:Int)*(rh:Int):=by rw [wu]; omega
 have e3:u64.wrap ((4294967296:Int)*(rh:Int)+(un1:Int))=(4294967296:Int)*(rh:Int)+(un1:Int):=by rw [wu]; omega
 rw [e1,e2,e3,decide_eq_false (by omega:¬ (4294967296:Int) <= (q1:Int)),decide_eq_false (by omega)]
 rfl
theorem dv_a2 (un32 un1 q1 rh un21:Nat) (hr:un32=q1*2684354560+rh) (hrl:rh < 2684354560) (h1:un1 < 4294967296) (hu:un21=rh*4294967296+un1) :
  u64.wrap (u64.wrap (u64.wrap (((un32:Nat):Int)*(4294967296:Int))+(un1:Int)) - u64.wrap ((q1:Int)*((11529215046068469760:Nat):Int)))=((un21:Nat):Int):=by
 have e:((11529215046068469760:Nat):Int)=11529215046068469760:=rfl
 subst hr; subst hu
 rw [wu,wu,wu,wu,e]
 omega
theorem dv_a3 (un21 q0 rh0:Nat) (h:un21=q0*2684354560+rh0) (hl:rh0 < 2684354560) (hq:q0 < 4294967296):u64.wrap (((un21:Nat):Int).tdiv ((2684354560:Nat):Int))=((q0:Nat):Int):=by
 have e:((2684354560:Nat):Int)=2684354560:=rfl
 rw [Int.tdiv_eq_ediv_of_nonneg (by omega),wu,e]
 omega
theorem dv_a4 (un21 q0 rh0:Nat) (h:un21=q0*2684354560+rh0) (hl:rh0 < 2684354560) (hq:q0 < 4294967296):u64.wrap (((un21:Nat):Int) - u64.wrap (((q0:Nat):Int)*((2684354560:Nat):Int)))=((rh0:Nat):Int):=by
 have e:((2684354560:Nat):Int)=2684354560:=rfl
 rw [wu,wu,e]
 omega
theorem dv_a5 (q1 q0:Nat) (hq:q1 < 4294967296) (hq0:q0 < 4294967296):u64.wrap (u64.wrap ((q1:Int)*(4294967296:Int))+(q0:Int))=((q1*4294967296+q0:Nat):Int):=by
 rw [wu,wu]
 omega
theorem dv_a6 (un21 q0 rh0:Nat) (h:un21=q0*2684354560+rh0) (hl:rh0 < 2684354560):u64.wrap (u64.wrap (u64.wrap (((un21:Nat):Int)*(4294967296:Int))+((0:Nat):Int)) - u64.wrap ((q0:Int)*((11529215046068469760:Nat):Int)))=((rh0*4294967296:Nat):Int):=by
 have e:((11529215046068469760:Nat):Int)=11529215046068469760:=rfl
 subst h
 rw [wu,wu,wu,wu,e]
 omega
theorem dv_loops (T0:Type) (R0:List AV->Option T0) (f0a:T0->Int) (un32 un1 q1 rh un21 q0 rh0:Nat) (h1:un1 < 4294967296) (hq:q1 < 4294967296) (hq0:q0 < 4294967296) (hr:un32=q1*2684354560+rh) (hrl:rh < 2684354560)
  (hu:un21=rh*4294967296+un1) (hr0:un21=q0*2684354560+rh0) (hrl0:rh0 < 2684354560) :
  Dv_L1 T0 R0 f0a 2 ((11529215046068469760:Nat):Int) ((60:Nat):Int) ((2684354560:Nat):Int) ((0:Nat):Int) (un32:Int) (un1:Int) ((0:Nat):Int) (q1:Int) (rh:Int) =
   some (AV.tup [.s (.pl (.int .u64 ((q1*4294967296+q0:Nat):Int))),.s (.pl (.int .u64 ((rh0*4294967296 / 2 ^ 60:Nat):Int)))]):=by
 rw [Dv_L1,lpA_succ,Dv_r1,dv_a1 q1 rh un1 h1 hrl hq,cond_false,kOut_some]
 rw [Dv_c1e0,decide_eq_false (by decide:¬ ((2684354560:Nat):Int)=0),cond_false,dv_a2 un32 un1 q1 rh un21 hr hrl h1 hu,dv_a3 un21 q0 rh0 hr0 hrl0 hq0,dv_a4 un21 q0 rh0 hr0 hrl0 hq0]
 rw [Dv_L2,lpA_succ,Dv_r2,dv_a1 q0 rh0 0 (by decide) hrl0 hq0,cond_false,kOut_some]
 rw [Dv_c2e2,decide_eq_false (by decide:¬ ((60:Nat):Int) < 0),cond_false,dv_a5 q1 q0 hq hq0,dv_a6 un21 q0 rh0 hr0 hrl0,shr64 _ _ (by decide)]
theorem dv_b (h l:Nat) (hh:h < 10) (hl:l < 18446744073709551616):bOr .u64 (bShl .u64 (h:Int) ((60:Nat):Int)) (bShr .u64 (l:Int) ((4:Nat):Int))=((h*1152921504606846976+l / 16:Nat):Int):=by
 rw [shl64 _ _ (by decide),shr64 _ _ (by decide)]
 have a1:h*2 ^ 60%18446744073709551616=2 ^ 60*h:=by omega
 rw [a1,or64 _ _ (by omega) (by omega)]
 have:=Nat.two_pow_add_eq_or_of_lt (i:=60) (b:=l / 2 ^ 4) (by omega) h
 rw [<-this,show 2 ^ 60*h+l / 2 ^ 4=h*1152921504606846976+l / 16 by omega]
theorem dv_l (l:Nat) (hl:l < 18446744073709551616):bShl .u64 (l:Int) ((60:Nat):Int)=((l%16*1152921504606846976:Nat):Int):=by
 rw [shl64 _ _ (by decide),show l*2 ^ 60%18446744073709551616=l%16*1152921504606846976 by omega]
theorem dv_13 (l:Nat):bShr .u64 ((l%16*1152921504606846976:Nat):Int) ((32:Nat):Int)=((l%16*268435456:Nat):Int):=by
 rw [shr64 _ _ (by decide),show l%16*1152921504606846976 / 2 ^ 32=l%16*268435456 by omega]
theorem dv_14 (l:Nat):bAnd .u64 ((l%16*1152921504606846976:Nat):Int) 4294967295=((0:Nat):Int):=by
 rw [and32 _ (by omega),show l%16*1152921504606846976%4294967296=0 by omega]
theorem dv_nums (h l un32 un1 q1 rh un21 q0 rh0:Nat) (hh:h < 10) (hl:l < 18446744073709551616) (e1:un32=h*1152921504606846976+l / 16) (e2:un1=l%16*268435456) (e3:q1=un32 / 2684354560) (e4:rh=un32 - q1*2684354560) (e5:un21=rh*4294967296+un1) (e6:q0=un21 / 2684354560) (e7:rh0=un21 - q0*2684354560) :
  un32 < 18446744073709551616 /\ un1 < 4294967296 /\ q1 < 4294967296 /\ q0 < 4294967296 /\ un32=q1*2684354560+rh /\ rh < 2684354560 /\ un21=q0*2684354560+rh0 /\ rh0 < 2684354560 /\ q1*4294967296+q0=(h*18446744073709551616+l) / 10 /\ rh0*4294967296 / 2 ^ 60=(h*18446744073709551616+l)%10:=by
 omega
theorem ok_Div64:CallOk prog nF181 sDiv64:=by
 refine afunc_okE (g:=gI_Dv) (fu:=fun _=>2) mixed gok_Dv hF181 (by kernel_rfl) ?_
 intro args t ht
 unfold sDiv64 at ht
 simp only at ht
 split at ht
 case h_2=>cases ht
 rename_i x y z
 obtain ⟨h1,h2⟩:=ctrue ht
 cases h2
 simp only [Bool.and_eq_true,decide_eq_true_eq,in64] at h1
 obtain ⟨⟨rfl,hx⟩,hy⟩:=h1
 obtain ⟨h,rfl⟩:=Int.eq_ofNat_of_zero_le hx.1
 obtain ⟨l,rfl⟩:=Int.eq_ofNat_of_zero_le hy.1
 clear ht
 have hh:h < 10:=by omega
 have hl:l < 18446744073709551616:=by omega
 refine (Dv_ev _ _ _ _ _ _ _).trans ?_
 rw [decide_eq_false (by decide:¬ (10:Int)=0),cond_false,decide_eq_false (by omega:¬ (10:Int) <= (h:Int)),cond_false,cond_false]
 have f1:((h:Int)*18446744073709551616+l) / 10=(((h*18446744073709551616+l) / 10:Nat):Int):=by omega
 have f2:((h:Int)*18446744073709551616+l)%10=(((h*18446744073709551616+l)%10:Nat):Int):=by omega
 rw [f1,f2]
 simp only [sDiv64]
 clear f1 f2 hx hy
 by_cases h0:h=0
 ·subst h0
  rw [decide_eq_true (by rfl:((0:Nat):Int)=0),cond_true,Int.tdiv_eq_ediv_of_nonneg (by omega),Int.tmod_eq_emod_of_nonneg (by omega),wu64 (by omega) (by omega)]
  rw [show (l:Int) / 10=((l / 10:Nat):Int) by omega,show (l:Int)%10=((l%10:Nat):Int) by omega,Nat.zero_mul,Nat.zero_add,cond_false]
 ·rw [decide_eq_false (by omega:¬ ((h:Nat):Int)=0),cond_false]
  rw [show (10:Int)=((10:Nat):Int) from rfl,run_LZ 10 (by decide),Option.bind_some]
  have b10:64 - bl 10=60:=by decide +kernel
  have w60:u64.wrap ((60:Nat):Int)=((60:Nat):Int):=by decide +kernel
  have w4:u64.wrap (64 - ((60:Nat):Int))=((4:Nat):Int):=by decide +kernel
  have ey:bShl .u64 ((10:Nat):Int) ((60:Nat):Int)=((11529215046068469760:Nat):Int):=by decide +kernel
  have e9:bShr .u64 ((11529215046068469760:Nat):Int) 32=((2684354560:Nat):Int):=by decide +kernel
  have e10:bAnd .u64 ((11529215046068469760:Nat):Int) 4294967295=((0:Nat):Int):=by decide +kernel
  rw [b10,w60,w4,ey,e9,e10,dv_b h l hh hl,dv_l l hl,show (32:Int)=((32:Nat):Int) from rfl,dv_13,dv_14]
  rw [decide_eq_false (by decide:¬ ((4:Nat):Int) < 0),cond_false,decide_eq_false (by decide:¬ ((2684354560:Nat):Int)=0),cond_false]
  obtain ⟨un32,hu⟩:∃ u,u=h*1152921504606846976+l / 16:=⟨_,rfl⟩
  obtain ⟨un1,hu1⟩:∃ u,u=l%16*268435456:=⟨_,rfl⟩
  rw [<-hu,<-hu1]
  obtain ⟨q1,hq⟩:∃ u,u=un32 / 2684354560:=⟨_,rfl⟩
  obtain ⟨rh,hr⟩:∃ u,u=un32 - q1*2684354560:=⟨_,rfl⟩
  obtain ⟨un21,hm⟩:∃ u,u=rh*4294967296+un1:=⟨_,rfl⟩
  obtain ⟨q0,hq0⟩:∃ u,u=un21 / 2684354560:=⟨_,rfl⟩
  obtain ⟨rh0,hr0⟩:∃ u,u=un21 - q0*2684354560:=⟨_,rfl⟩
  obtain ⟨p0,p1,p2,p3,p4,p5,p6,p7,p8,p9⟩:=dv_nums h l un32 un1 q1 rh un21 q0 rh0 hh hl hu hu1 hq hr hm hq0 hr0
  rw [dv_a3 un32 q1 rh p4 p5 p2,dv_a4 un32 q1 rh p4 p5 p2,decide_eq_false (by decide:¬ ((60:Nat):Int) < 0),cond_false,cond_false,cond_false]
  refine (dv_loops _ _ _ un32 un1 q1 rh un21 q0 rh0 p1 p2 p3 p4 p5 hm p6 p7).trans ?_
  rw [p8,p9]
abbrev gI_Sm:Cg:=g_Sm (Int × Int) rDiv64 (fun t=>t.fst) (fun t=>t.snd)
theorem gok_Sm:CfOk prog gI_Sm.c:=⟨gam_cons ok_Div64 <| gam_nil,fun _ _ h=>by cases h⟩
theorem run_Div64 (h l:Nat) (hh:h < 10) (hl:l < 18446744073709551616):rDiv64 [.int .u64 (h:Int),.int .u64 (l:Int),.int .u64 10]=some ((((h*18446744073709551616+l) / 10:Nat):Int),(((h*18446744073709551616+l)%10:Nat):Int)):=by
 have h1:decide (0 <= (h:Int) /\ (h:Int) < 10)=true:=decide_eq_true (by omega)
 have h2:in64 (l:Int)=true:=by simp [in64]; omega
 simp only [rDiv64,sDiv64,h1,h2,decide_true,Bool.true_and,cond_true]
 have f1:((h:Int)*18446744073709551616+l) / 10=(((h*18446744073709551616+l) / 10:Nat):Int):=by omega
 have f2:((h:Int)*18446744073709551616+l)%10=(((h*18446744073709551616+l)%10:Nat):Int):=by omega
 rw [f1,f2]
theorem val_dv {b q s' s:Nat} {B Q:List Int} (h:val B=10*val Q+s') (e:s'*18446744073709551616+b=10*q+s):val ((b:Int) :: B)=10*val ((q:Int) :: Q)+s:=by
 simp only [val,Int.toNat_natCast]; omega
theorem ok_Small:CallOk prog nF176 sSmall:=by
 refine afunc_okE (g:=gI_Sm) (fu:=fun _=>0) mixed gok_Sm hF176 (by kernel_rfl) ?_
 intro args t ht
 obtain ⟨a,rfl,ha,rfl⟩:=run1_ok ht
 obtain ⟨a0,a1,a2,a3,a4,a5,a6,a7,rfl⟩:=list8 ha
 have hk:=ok8_ok ha
 simp only [okL,Bool.and_eq_true,decide_eq_true_eq] at hk
 obtain ⟨h0,h1,h2,h3,h4,h5,h6,h7,_⟩:=hk
 obtain ⟨b0,rfl⟩:=Int.eq_ofNat_of_zero_le h0.1
 obtain ⟨b1,rfl⟩:=Int.eq_ofNat_of_zero_le h1.1
 obtain ⟨b2,rfl⟩:=Int.eq_ofNat_of_zero_le h2.1
 obtain ⟨b3,rfl⟩:=Int.eq_ofNat_of_zero_le h3.1
 obtain ⟨b4,rfl⟩:=Int.eq_ofNat_of_zero_le h4.1
 obtain ⟨b5,rfl⟩:=Int.eq_ofNat_of_zero_le h5.1
 obtain ⟨b6,rfl⟩:=Int.eq_ofNat_of_zero_le h6.1
 obtain ⟨b7,rfl⟩:=Int.eq_ofNat_of_zero_le h7.1
 refine (Sm_ev _ _ _ _ _ _ _ _ _ _ _ _ _).trans ?_
 clear ht ha
 have l0:b0 < 18446744073709551616:=by omega
 have l1:b1 < 18446744073709551616:=by omega
 have l2:b2 < 18446744073709551616:=by omega
 have l3:b3 < 18446744073709551616:=by omega
 have l4:b4 < 18446744073709551616:=by omega
 have l5:b5 < 18446744073709551616:=by omega
 have l6:b6 < 18446744073709551616:=by omega
 have l7:b7 < 18446744073709551616:=by omega
 clear h0 h1 h2 h3 h4 h5 h6 h7
 have step:∀ (r b:Nat),r < 10->b < 18446744073709551616->∃ q s,s < 10 /\ r*18446744073709551616+b=10*q+s /\ q < 18446744073709551616 /\ rDiv64 [.int .u64 (r:Int),.int .u64 (b:Int),.int .u64 10]=some ((q:Int),(s:Int)):=by
  intro r b hr hb
  exact ⟨_,_,Nat.mod_lt _ (by decide),(Nat.div_add_mod _ 10).symm,by omega,run_Div64 r b hr hb⟩
 obtain ⟨q7,s7,c7,e7,d7,r7⟩:=step 0 b7 (by decide) l7
 obtain ⟨q6,s6,c6,e6,d6,r6⟩:=step s7 b6 c7 l6
 obtain ⟨q5,s5,c5,e5,d5,r5⟩:=step s6 b5 c6 l5
 obtain ⟨q4,s4,c4,e4,d4,r4⟩:=step s5 b4 c5 l4
 obtain ⟨q3,s3,c3,e3,d3,r3⟩:=step s4 b3 c4 l3
 obtain ⟨q2,s2,c2,e2,d2,r2⟩:=step s3 b2 c3 l2
 obtain ⟨q1,s1,c1,e1,d1,r1⟩:=step s2 b1 c2 l1
 obtain ⟨q0,s0,c0,e0,d0,r0⟩:=step s1 b0 c1 l0
 clear step
 rw [show (0:Int)=((0:Nat):Int) from rfl]
 simp only [r7,r6,r5,r4,r3,r2,r1,r0,Option.bind_some]
 have ev:val [(b0:Int),(b1:Int),(b2:Int),(b3:Int),(b4:Int),(b5:Int),(b6:Int),(b7:Int)]=10*val [(q0:Int),(q1:Int),(q2:Int),(q3:Int),(q4:Int),(q5:Int),(q6:Int),(q7:Int)]+s0:=by
  exact val_dv (val_dv (val_dv (val_dv (val_dv (val_dv (val_dv (val_dv (B:=[]) (Q:=[]) rfl e7) e6) e5) e4) e3) e2) e1) e0
 have eq:val [(b0:Int),(b1:Int),(b2:Int),(b3:Int),(b4:Int),(b5:Int),(b6:Int),(b7:Int)] / 10=val [(q0:Int),(q1:Int),(q2:Int),(q3:Int),(q4:Int),(q5:Int),(q6:Int),(q7:Int)]:=by
  rw [ev]; omega
 have er:val [(b0:Int),(b1:Int),(b2:Int),(b3:Int),(b4:Int),(b5:Int),(b6:Int),(b7:Int)]%10=s0:=by
  rw [ev]; omega
 have ok:ok8 [(q0:Int),(q1:Int),(q2:Int),(q3:Int),(q4:Int),(q5:Int),(q6:Int),(q7:Int)]=true:=by
  simp only [ok8,okL,Bool.and_eq_true,decide_eq_true_eq]
  refine ⟨rfl,?_,?_,?_,?_,?_,?_,?_,?_,trivial⟩ <;> omega
 have w8:u8.wrap (s0:Int)=(s0:Int):=by rw [wu8n]; omega
 simp only [sSmall,eq,er,lim8_val ok,w8]
theorem run_Small {a:List Int} (ha:ok8 a=true):rSmall [W8 a]=some (val a / 10,val a%10):=run1_some (fun a=>(val a / 10,val a%10)) ha
abbrev gI_Dg:Cg:=g_Dg (Nat × Nat) rSmall (fun t=>lim 8 t.fst) (fun t=>↑t.snd)
theorem gok_Dg:CfOk prog gI_Dg.c:=⟨gam_cons ok_Small <| gam_nil,efs_cons eff_rev <| efs_nil⟩
theorem lim8_zero_iff (q:Nat) (h:q < M512):lim 8 q=[0,0,0,0,0,0,0,0] ↔ q=0:=by
 constructor
 ·intro e
  have:=congrArg val e
  rw [val_lim8,Nat.mod_eq_of_lt h] at this
  rw [this]; rfl
 ·intro e; subst e; exact lim_zero8
theorem dg_loop:∀ (f n q m:Nat) (xs:List Int),f < n->q < 10 ^ (f+1)->q < M512->xs.length+f < 1099511627776 ->
  lpA prog gI_Dg 201 Dg_b1 (Dg_k1 _ rSmall (fun t=>lim 8 t.1) (fun t=>(t.2:Int)) 201) n (some (Dg_s1 xs.length (lim 8 q) m xs))=some (.str ((xs++digL (f+1) q).reverse.map b8)):=by
 intro f
 induction f with
 | zero=>
  intro n q m xs hn hq hM hl
  obtain ⟨n,rfl⟩:=Nat.exists_eq_succ_of_ne_zero (by omega:n ≠ 0)
  have hw:u8.wrap (48+((q%10:Nat):Int))=(48+(q%10:Nat):Int):=by
   rw [show (48+((q%10:Nat):Int))=((48+q%10:Nat):Int) by omega,wu8n]; omega
  rw [lpA_succ,Dg_r1,show AV.agg (TRow.ints u64 (lim 8 q)) 8=W8 (lim 8 q) from rfl,run_Small (ok8_lim q),val_lim8,Nat.mod_eq_of_lt hM,Option.bind_some,decide_eq_true (by omega:xs.length+1 <= 1099511627776),cond_true]
  have h0:q / 10=0:=by omega
  rw [decide_eq_true ((lim8_zero_iff _ (by omega)).2 h0),cond_true,cond_true,kOut_some,Dg_c1r]
  simp only [digL,h0,if_true,hw]
 | succ f ih=>
  intro n q m xs hn hq hM hl
  obtain ⟨n,rfl⟩:=Nat.exists_eq_succ_of_ne_zero (by omega:n ≠ 0)
  have hw:u8.wrap (48+((q%10:Nat):Int))=(48+(q%10:Nat):Int):=by
   rw [show (48+((q%10:Nat):Int))=((48+q%10:Nat):Int) by omega,wu8n]; omega
  rw [lpA_succ,Dg_r1,show AV.agg (TRow.ints u64 (lim 8 q)) 8=W8 (lim 8 q) from rfl,run_Small (ok8_lim q),val_lim8,Nat.mod_eq_of_lt hM,Option.bind_some,decide_eq_true (by omega:xs.length+1 <= 1099511627776),cond_true]
  by_cases h0:q / 10=0
  ·rw [decide_eq_true ((lim8_zero_iff _ (by omega)).2 h0),cond_true,cond_true,kOut_some,Dg_c1r]
   simp only [digL,h0,if_true,hw]
  ·rw [decide_eq_false (fun e=>h0 ((lim8_zero_iff _ (by omega)).1 e)),cond_false]
   have:=ih n (q / 10) ((xs.length+1)*1) (xs++[u8.wrap (48+((q%10:Nat):Int))]) (by omega) (by rw [Nat.pow_succ] at hq; omega) (by omega) (by simp; omega)
   rw [List.length_append,show [u8.wrap (48+((q%10:Nat):Int))].length=1 from rfl] at this
   refine this.trans ?_
   rw [hw,List.append_assoc]
   simp only [digL,h0,if_false,List.singleton_append]
theorem M512_lt:M512 < 10 ^ 200:=by decide +kernel
theorem ok_Digits:CallOk prog nF164 sDigits:=by
 refine afunc_okE (g:=gI_Dg) (fu:=fun _=>201) mixed gok_Dg hF164 (by kernel_rfl) ?_
 intro args t ht
 obtain ⟨a,rfl,ha,rfl⟩:=run1_ok ht
 refine (Dg_ev _ _ _ _ _ _).trans ?_
 have va:=val8_lt ha
 have:=dg_loop 199 201 (val a) 0 [] (by decide) (Nat.lt_trans va M512_lt) va (by decide)
 rw [lim8_val ha] at this
 exact this
abbrev gI_Dc:Cg:=g_Dc (Int) rOf (fun t=>[t,0,0,0,0,0,0,0]) (Nat × Bool) rMul (fun t=>lim 8 t.fst) (fun t=>t.snd) (Nat × Bool) rAdd (fun t=>lim 8 t.fst) (fun t=>t.snd)
theorem gok_Dc:CfOk prog gI_Dc.c:=⟨gam_cons ok_Of <| gam_cons ok_Mul <| gam_cons ok_Add <| gam_nil,fun _ _ h=>by cases h⟩
theorem run_Of (n:Nat) (h:n < 18446744073709551616):rOf [.int .u64 (n:Int)]=some (n:Int):=by
 simp only [rOf,sOf]
theorem all_digit_get {s:Str} (i:Nat) (h:i < s.length):s.drop i=s.getD i 0 :: s.drop (i+1):=by
 rw [List.drop_eq_getElem_cons h]
 simp [List.getD,h]
theorem dc_scan (fu:Nat) (s:Str) (x0 x1:List Int) (v25:Int) (hv:v25=(s.length:Int)) (hl:s.length <= 1099511627776):∀ (k n i:Nat),s.length - i=k->k < n->i <= s.length ->
  lpA prog gI_Dc fu Dc_b1 (Dc_k1 _ rOf (fun t=>[t,0,0,0,0,0,0,0]) _ rMul (fun t=>lim 8 t.1) (fun t=>t.2) _ rAdd (fun t=>lim 8 t.1) (fun t=>t.2) fu) n (some (Dc_s1 s v25 (i:Int) x0 x1)) =
   cond ((s.drop i).all isDig) (Dc_L2 _ rOf (fun t=>[t,0,0,0,0,0,0,0]) _ rMul (fun t=>lim 8 t.1) (fun t=>t.2) _ rAdd (fun t=>lim 8 t.1) (fun t=>t.2) fu s (s.length:Int) 0 x0 x1) (some (.tup [.s (.pl (.agg (.ints .u64 zero8) 8)),.s (.pl (.int .i64 4))])):=by
 intro k
 induction k with
 | zero=>
  intro n i hk hn hi
  obtain ⟨n,rfl⟩:=Nat.exists_eq_succ_of_ne_zero (by omega:n ≠ 0)
  have e:i=s.length:=by omega
  subst e
  rw [lpA_succ,Dc_r1,hv,decide_eq_false (by omega),cond_false,kOut_some,Dc_c1e0,List.drop_length]
  rfl
 | succ k ih=>
  intro n i hk hn hi
  obtain ⟨n,rfl⟩:=Nat.exists_eq_succ_of_ne_zero (by omega:n ≠ 0)
  have hb:0 <= (i:Int) /\ (i:Int) < (s.length:Int):=by omega
  rw [lpA_succ,Dc_r1,decide_eq_true (by omega:(i:Int) < v25),cond_true,decide_eq_true hb,cond_true,cond_true,Int.toNat_natCast]
  rw [all_digit_get i (by omega),List.all_cons]
  have hd:isDig (s.getD i 0)=(decide (48 <= (s.getD i 0).toNat) && decide ((s.getD i 0).toNat <= 57)):=by
   have hble:∀ a b:Nat,Nat.ble a b=decide (a <= b):=fun a b=>by
    cases h:Nat.ble a b
    ·rw [decide_eq_false fun hle=>by rw [Nat.ble_eq_true_of_le hle] at h; cases h]
    ·rw [decide_eq_true (Nat.le_of_ble_eq_true h)]
   simp only [isDig,hble]
  rw [hd]
  by_cases h1:(s.getD i 0).toNat < 48
  ·rw [decide_eq_true (by omega:(((s.getD i 0).toNat:Nat):Int) < 48),cond_true,kOut_some,Dc_c1r,decide_eq_false (by omega:¬ 48 <= (s.getD i 0).toNat)]
   rfl
  ·rw [decide_eq_false (by omega:¬ (((s.getD i 0).toNat:Nat):Int) < 48),cond_false]
   by_cases h2:57 < (s.getD i 0).toNat
   ·rw [decide_eq_true (by omega:(57:Int) < (((s.getD i 0).toNat:Nat):Int)),cond_true,kOut_some,Dc_c1r,decide_eq_false (by omega:¬ (s.getD i 0).toNat <= 57),Bool.and_false]
    rfl
   ·rw [decide_eq_false (by omega:¬ (57:Int) < (((s.getD i 0).toNat:Nat):Int)),cond_false,wi64 (by omega) (by omega)]
    rw [decide_eq_true (by omega:48 <= (s.getD i 0).toNat),decide_eq_true (by omega:(s.getD i 0).toNat <= 57)]
    exact ih n (i+1) (by omega) (by omega) (by omega)
theorem decV_le:∀ (s:Str) (n:Nat),n <= decV n s:=by
 intro s
 induction s with
 | nil=>intro n; exact Nat.le_refl _
 | cons c r ih=>intro n; exact Nat.le_trans (by omega) (ih (n*10+(c.toNat - 48)))
theorem W8_of (n:Nat):ok8 [((n:Nat):Int),0,0,0,0,0,0,0]=true ↔ n < 18446744073709551616:=by
 simp [ok8,okL]; omega
theorem val_of (n:Nat):val [((n:Nat):Int),0,0,0,0,0,0,0]=n:=by simp [val]
theorem dc_add (fu:Nat) (s:Str) (x0:List Int) (v42:Int) (hv:v42=(s.length:Int)) (hl:s.length <= 1099511627776):∀ (k n i v:Nat),s.length - i=k->k < n->i <= s.length->v < M512->(s.drop i).all isDig=true ->
  lpA prog gI_Dc fu Dc_b2 (Dc_k2 _ rOf (fun t=>[t,0,0,0,0,0,0,0]) _ rMul (fun t=>lim 8 t.1) (fun t=>t.2) _ rAdd (fun t=>lim 8 t.1) (fun t=>t.2) fu) n (some (Dc_s2 s v42 (i:Int) x0 (lim 8 v))) =
   cond (Nat.blt (decV v (s.drop i)) M512) (some (.tup [.s (.pl (.agg (.ints .u64 (lim 8 (decV v (s.drop i)))) 8)),.s (.pl (.int .i64 0))])) (some (.tup [.s (.pl (.agg (.ints .u64 zero8) 8)),.s (.pl (.int .i64 7))])):=by
 intro k
 induction k with
 | zero=>
  intro n i v hk hn hi hM _
  obtain ⟨n,rfl⟩:=Nat.exists_eq_succ_of_ne_zero (by omega:n ≠ 0)
  have e:i=s.length:=by omega
  subst e
  have hb:Nat.blt v M512=true:=by simp [Nat.blt_eq]; exact hM
  rw [lpA_succ,Dc_r2,hv,decide_eq_false (by omega),cond_false,kOut_some,Dc_c2e2,List.drop_length]
  show _=cond (Nat.blt v M512) _ _
  rw [hb]; rfl
 | succ k ih=>
  intro n i v hk hn hi hM hall
  obtain ⟨n,rfl⟩:=Nat.exists_eq_succ_of_ne_zero (by omega:n ≠ 0)
  have hb:0 <= (i:Int) /\ (i:Int) < (s.length:Int):=by omega
  rw [all_digit_get i (by omega),List.all_cons,Bool.and_eq_true] at hall
  obtain ⟨hd,hall⟩:=hall
  have hdig:48 <= (s.getD i 0).toNat /\ (s.getD i 0).toNat <= 57:=by
   simp only [isDig,Bool.and_eq_true] at hd
   exact ⟨Nat.le_of_ble_eq_true hd.1,Nat.le_of_ble_eq_true hd.2⟩
  have hw:u64.wrap (u8.wrap ((((s.getD i 0).toNat:Nat):Int) - 48))=(((s.getD i 0).toNat - 48:Nat):Int):=by
   rw [show ((((s.getD i 0).toNat:Nat):Int) - 48)=(((s.getD i 0).toNat - 48:Nat):Int) by omega,wu8n,Nat.mod_eq_of_lt (by omega),wu64n,Nat.mod_eq_of_lt (by omega)]
  have hten:ok8 [((10:Nat):Int),0,0,0,0,0,0,0]=true:=by decide
  rw [lpA_succ,Dc_r2,decide_eq_true (by omega:(i:Int) < v42),cond_true,show (10:Int)=((10:Nat):Int) from rfl,run_Of 10 (by decide),Option.bind_some]
  rw [show AV.agg (TRow.ints u64 (lim 8 v)) 8=W8 (lim 8 v) from rfl,show AV.agg (TRow.ints u64 [((10:Nat):Int),0,0,0,0,0,0,0]) 8=W8 [((10:Nat):Int),0,0,0,0,0,0,0] from rfl,run_Mul (ok8_lim v) hten,Option.bind_some,mulW,val_lim8,Nat.mod_eq_of_lt hM,val_of]
  rw [decide_eq_true hb,cond_true,Int.toNat_natCast,hw,run_Of _ (by omega),Option.bind_some]
  rw [show ∀ x,AV.agg (TRow.ints u64 (lim 8 x)) 8=W8 (lim 8 x) from fun _=>rfl,show ∀ x:Int,AV.agg (TRow.ints u64 [x,0,0,0,0,0,0,0]) 8=W8 [x,0,0,0,0,0,0,0] from fun _=>rfl,run_Add (ok8_lim _) ((W8_of _).2 (by omega)),Option.bind_some,sumW,val_lim8,val_of]
  have edv:decV v (s.drop i)=decV (v*10+((s.getD i 0).toNat - 48)) (s.drop (i+1)):=by rw [all_digit_get i (by omega)]; rfl
  rw [edv]
  by_cases h1:v*10+((s.getD i 0).toNat - 48) < M512
  ·have h2:v*10 < M512:=by omega
   rw [Nat.mod_eq_of_lt h2,decide_eq_true h2,decide_eq_true h1]
   simp only [Bool.not_true,Bool.or_self,cond_false]
   rw [wi64 (by omega) (by omega)]
   exact ih n (i+1) _ (by omega) (by omega) (by omega) h1 hall
  ·have hbig:Nat.blt (decV (v*10+((s.getD i 0).toNat - 48)) (s.drop (i+1))) M512=false:=by
    have:=decV_le (s.drop (i+1)) (v*10+((s.getD i 0).toNat - 48))
    cases hc:Nat.blt (decV (v*10+((s.getD i 0).toNat - 48)) (s.drop (i+1))) M512
    ·rfl
    ·have:=Nat.le_of_ble_eq_true hc
     omega
   have hc:(!decide (v*10 < M512) || !decide (v*10%M512+((s.getD i 0).toNat - 48) < M512))=true:=by
    by_cases h2:v*10 < M512
    ·rw [Nat.mod_eq_of_lt h2,decide_eq_false h1]; simp
    ·rw [decide_eq_false h2]; rfl
   rw [hbig,hc,cond_true,kOut_some,Dc_c2r,cond_false]
theorem ok_Decimal:CallOk prog nF122 sDecimal:=by
 refine afunc_okE (g:=gI_Dc) (fu:=fun args=>match args with | [.c (.s (.pl (.str s)))]=>s.length+1 | _=>0) mixed gok_Dc hF122 (by kernel_rfl) ?_
 intro args t ht
 unfold sDecimal at ht
 simp only at ht
 split at ht
 case h_2=>cases ht
 rename_i s
 obtain ⟨hl,h2⟩:=ctrue ht
 have hl:s.length <= 1099511627776:=of_decide_eq_true hl
 cases h2
 refine (Dc_ev _ _ _ _ _ _ _ _ _ _ _ _ _).trans ?_
 have main:s ≠ []->Dc_L1 _ rOf (fun t=>[t,0,0,0,0,0,0,0]) _ rMul (fun t=>lim 8 t.1) (fun t=>t.2) _ rAdd (fun t=>lim 8 t.1) (fun t=>t.2) (s.length+1) s (s.length:Int) 0 zero8 zero8 =
   cond (s.all isDig) (cond (Nat.blt (decV 0 s) M512) (some (.tup [.s (.pl (.agg (.ints .u64 (lim 8 (decV 0 s))) 8)),.s (.pl (.int .i64 0))])) (some (.tup [.s (.pl (.agg (.ints .u64 zero8) 8)),.s (.pl (.int .i64 7))]))) (some (.tup [.s (.pl (.agg (.ints .u64 zero8) 8)),.s (.pl (.int .i64 4))])):=by
  intro hne
  refine (dc_scan (s.length+1) s zero8 zero8 _ rfl hl s.length (s.length+1) 0 (by omega) (by omega) (by omega)).trans ?_
  rw [List.drop_zero]
  cases hall:s.all isDig
  ·rfl
  ·rw [cond_true,cond_true]
   have:=dc_add (s.length+1) s zero8 _ rfl hl s.length (s.length+1) 0 0 (by omega) (by omega) (by omega) M512_pos (by rw [List.drop_zero]; exact hall)
   rw [lim_zero8,List.drop_zero] at this
   exact this
 show _=some (sDecimal.enc (decE s))
 have enc:∀ a b,sDecimal.enc (a,b)=.tup [.s (.pl (.agg (.ints .u64 (lim 8 a)) 8)),.s (.pl (.int .i64 b))]:=fun _ _=>rfl
 match s,hl,main with
 | [],_,_=>rfl
 | [c],_,main=>
  rw [decide_eq_false (by simp:¬ [c]=[]),cond_false]
  have h1:¬ (1:Int) < (([c]:Str).length:Int):=by simp
  rw [decide_eq_false h1,cond_false]
  refine (main (by simp)).trans ?_
  simp only [decE,decOk,List.all_cons,List.all_nil,Bool.and_true]
  cases isDig c
  ·simp only [cond_false,enc,lim_zero8]
  ·simp only [cond_true]
   cases Nat.blt (decV 0 [c]) M512
   ·simp only [cond_false,enc,lim_zero8]
   ·simp only [cond_true,enc]
 | c :: d :: r,_,main=>
  rw [decide_eq_false (by simp:¬ c :: d :: r=[]),cond_false]
  have h1:(1:Int) < (((c :: d :: r:Str)).length:Int):=by simp; omega
  have h2:(0:Int) <= 0 /\ (0:Int) < (((c :: d :: r:Str)).length:Int):=by simp; omega
  rw [decide_eq_true h1,cond_true,decide_eq_true h2,cond_true]
  have hg:List.getD (c :: d :: r) (Int.toNat 0) 0=c:=rfl
  rw [hg]
  have hc:decide (((c.toNat:Nat):Int)=48)=Nat.beq c.toNat 48:=by
   rw [Bool.eq_iff_iff]; simp [Nat.beq_eq]; omega
  rw [hc]
  simp only [decE,decOk]
  cases hb:Nat.beq c.toNat 48
  ·simp only [cond_false,Bool.not_false,Bool.true_and]
   refine (main (by simp)).trans ?_
   rw [List.all_cons]
   cases (isDig c && (d :: r).all isDig)
   ·simp only [cond_false,enc,lim_zero8]
   ·simp only [cond_true]
    cases Nat.blt (decV 0 (c :: d :: r)) M512
    ·simp only [cond_false,enc,lim_zero8]
    ·simp only [cond_true,enc]
  ·simp only [cond_true,Bool.not_true,Bool.false_and,cond_false,enc,lim_zero8]
theorem run_Decimal {s:Str} (h:s.length <= 1099511627776):rDecimal [.str s]=some (decE s):=by
 simp only [rDecimal,sDecimal,h,decide_true,cond_true]
theorem gok_Aw1:CfOk prog g_Aw1.c:=⟨gam_cons ok_Decimal <| gam_cons ok_Digits <| gam_cons ok_Len <| gam_nil,fun _ _ h=>by cases h⟩
theorem ok_awake01:CallOk prog nF147 sTrue:=by
 refine afunc_okE (g:=g_Aw1) (fu:=fun _=>0) mixed gok_Aw1 hF147 (by kernel_rfl) ?_
 intro args t ht
 unfold sTrue at ht
 simp only at ht
 split at ht
 ·cases ht; exact (Aw1_ev 0).trans rfl
 ·cases ht
end
end Go.Eng
