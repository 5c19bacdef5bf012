import Derived.Test.YteipjabipehbpaaGreatZS1
namespace Go.Eng
open Go.IntKind (u64 i64 u8)
noncomputable section
open Go Go.Proofs
set_option linter.all false
section
variable (T0:Type) (R0:List AV->Option T0) (f0a:T0->List UInt8) (T1:Type) (R1:List AV->Option T1) (f1a:T1->List UInt8) (T2:Type) (R2:List AV->Option T2) (T3:Type) (R3:List AV->Option T3) (T4:Type) (R4:List AV->Option T4) (f4a:T4->List Int)
def g_ShSU:Cg:=⟨⟨gam [(nF131,⟨R0,fun t=>AV.str (f0a t)⟩),(nF132,⟨R1,fun t=>AV.str (f1a t)⟩),(nF133,⟨R2,fun t=>AV.agg (.ints .u64 (up hN)) 8⟩),(nF134,⟨R3,fun t=>AV.agg (.ints .u64 (up kN)) 80⟩),(nF135,⟨R4,fun t=>AV.agg (.ints .u64 (f4a t)) 8⟩)],[],noE⟩,[(6,[2,3,4,5],[2,3]),(10,[2,3,6,7],[2,6]),(15,[2,6,8,48],[2,8])]⟩
def ShSU_s1 (s3:Str) (v4 v5:Int) (x_0:List Int):St:={ tm:=[(2,.s (.ptr 0 0 64)),(3,.str s3),(4,.int .u64 v4),(5,.int .i64 v5)],hp:=[(0,{ ty:=127,n:=64,row:=Row.t (.ints .u8 x_0) })],nx:=1,sz:=65 }
def ShSU_b1:Code:=bodyL (codeAt [1,1,1,1,0,1,2] (codeF fF103))
def ShSU_k1 (fu:Nat):=kAt prog (g_ShSU T0 R0 f0a T1 R1 f1a T2 R2 T3 R3 T4 R4 f4a) fu [1,1,1,1,0,1,2] (codeF fF103) (kFin prog fF103)
abbrev ShSU_L1 (fu:Nat) (s3:Str) (v4 v5:Int) (x_0:List Int):=lpA prog (g_ShSU T0 R0 f0a T1 R1 f1a T2 R2 T3 R3 T4 R4 f4a) fu ShSU_b1 (ShSU_k1 T0 R0 f0a T1 R1 f1a T2 R2 T3 R3 T4 R4 f4a fu ) fu (some (ShSU_s1 s3 v4 v5 x_0))
theorem ShSU_ev (fu:Nat) (ss:List Str) (n:Nat):afunc prog fF103 (g_ShSU T0 R0 f0a T1 R1 f1a T2 R2 T3 R3 T4 R4 f4a) fu [.s (.dat (.strs ss) n 1)]=(R0 [.s (.dat (.strs ss) n 1),.str []]).bind fun t=>(R1 [.str [(0:UInt8)],.int .i64 ((i64.wrap ((247:Int) - (↑(f0a t).length:Int).tmod (128:Int))).tmod (128:Int))]).bind fun t_1=>bif decide (1+(f1a t_1).length <= 9223372036854775807) then bif decide ((f0a t).length+List.length ([(128:UInt8)]++f1a t_1) <= 9223372036854775807) then ShSU_L1 T0 R0 f0a T1 R1 f1a T2 R2 T3 R3 T4 R4 f4a fu (f0a t++([(128:UInt8)]++f1a t_1)) (u64.wrap (u64.wrap (↑(f0a t).length:Int)*(8:Int))) (7:Int) [(0:Int),0,0,0,0,0,0,0,0,0,0,0,0,0,0,0,0,0,0,0,0,0,0,0,0,0,0,0,0,0,0,0,0,0,0,0,0,0,0,0,0,0,0,0,0,0,0,0,0,0,0,0,0,0,0,0,0,0,0,0,0,0,0,0] else none else none:=by kernel_rfl
def ShSU_o1e0 (s3:Str) (x_0:List Int):St:={ tm:=[(2,.s (.ptr 0 0 64)),(3,.str s3)],hp:=[(0,{ ty:=127,n:=64,row:=Row.t (.ints .u8 x_0) })],nx:=1,sz:=65 }
theorem ShSU_r1 {β:Type} (fu:Nat) (G:Option St->Option β) (H:Ex->Option St->Option β) (s3:Str) (v4 v5:Int) (x_0:List Int):lpR prog (g_ShSU T0 R0 f0a T1 R1 f1a T2 R2 T3 R3 T4 R4 f4a) fu ShSU_b1 G H (ShSU_s1 s3 v4 v5 x_0)=bif decide ((0:Int) <= v5) then bif decide (i64.wrap ((8:Int)*v5) < (0:Int)) then none else bif decide (List.length s3+1 <= 9223372036854775807) then G (some (ShSU_s1 (s3++List.map b8 [u8.wrap (bShr .u64 v4 (i64.wrap ((8:Int)*v5)))]) v4 (i64.wrap (v5 - (1:Int))) x_0)) else none else H (Ex.exit 0) (some (ShSU_o1e0 s3 x_0)):=by kernel_rfl
def ShSU_s2 (s3:Str) (x_0 x_1 x_2:List Int):St:={ tm:=[(2,.s (.ptr 0 0 64)),(3,.str s3),(6,.s (.ptr 1 0 8)),(7,.s (.ptr 2 0 80))],hp:=[(0,{ ty:=127,n:=64,row:=Row.t (.ints .u8 x_0) }),(1,{ ty:=152,n:=8,row:=Row.t (.ints .u64 x_1) }),(2,{ ty:=154,n:=80,row:=Row.t (.ints .u64 x_2) })],nx:=3,sz:=65 }
def ShSU_b2:Code:=bodyL (codeAt [1,1,1,1,1,1,0,2] (codeF fF103))
def ShSU_k2 (fu:Nat):=kAt prog (g_ShSU T0 R0 f0a T1 R1 f1a T2 R2 T3 R3 T4 R4 f4a) fu [1,1,1,1,1,1,0,2] (codeF fF103) (kFin prog fF103)
abbrev ShSU_L2 (fu:Nat) (s3:Str) (x_0 x_1 x_2:List Int):=lpA prog (g_ShSU T0 R0 f0a T1 R1 f1a T2 R2 T3 R3 T4 R4 f4a) fu ShSU_b2 (ShSU_k2 T0 R0 f0a T1 R1 f1a T2 R2 T3 R3 T4 R4 f4a fu ) fu (some (ShSU_s2 s3 x_0 x_1 x_2))
theorem ShSU_c1e0 (fu:Nat) (s3:Str) (x_0:List Int):ShSU_k1 T0 R0 f0a T1 R1 f1a T2 R2 T3 R3 T4 R4 f4a fu  (Ex.exit 0) (ShSU_o1e0 s3 x_0)=(R2 []).bind fun t=>(R3 []).bind fun t=>ShSU_L2 T0 R0 f0a T1 R1 f1a T2 R2 T3 R3 T4 R4 f4a fu s3 x_0 (up hN) (up kN):=by kernel_rfl
def ShSU_o2e2 (x_0 x_1:List Int):St:={ tm:=[(2,.s (.ptr 0 0 64)),(6,.s (.ptr 1 0 8))],hp:=[(0,{ ty:=127,n:=64,row:=Row.t (.ints .u8 x_0) }),(1,{ ty:=152,n:=8,row:=Row.t (.ints .u64 x_1) })],nx:=2,sz:=65 }
theorem ShSU_r2 {β:Type} (fu:Nat) (G:Option St->Option β) (H:Ex->Option St->Option β) (s3:Str) (x_0 x_1 x_2:List Int):lpR prog (g_ShSU T0 R0 f0a T1 R1 f1a T2 R2 T3 R3 T4 R4 f4a) fu ShSU_b2 G H (ShSU_s2 s3 x_0 x_1 x_2)=bif !decide (s3=[]) then bif decide ((0:Int) <= (0:Int) /\ (0:Int) <= (128:Int) /\ (128:Int) <= (↑(List.length s3):Int)) then (R4 [.agg (.ints .u64 x_1) 8,.s (.rptr (.ints .u64 x_2) 0 80),.str (sl s3 (0:Int) (128:Int))]).bind fun t=>bif decide ((0:Int) <= (128:Int) /\ (128:Int) <= (↑(List.length s3):Int) /\ (↑(List.length s3):Int) <= (↑(List.length s3):Int)) then G (some (ShSU_s2 (sl s3 (128:Int) (↑(List.length s3):Int)) x_0 (f4a t) x_2)) else none else none else H (Ex.exit 2) (some (ShSU_o2e2 x_0 x_1)):=by kernel_rfl
def ShSU_s3 (v48:Int) (x_0 x_1 x_2:List Int):St:={ tm:=[(2,.s (.ptr 0 0 64)),(6,.s (.ptr 1 0 8)),(8,.s (.ptr 2 0 64)),(48,.int .i64 v48)],hp:=[(0,{ ty:=127,n:=64,row:=Row.t (.ints .u8 x_0) }),(1,{ ty:=152,n:=8,row:=Row.t (.ints .u64 x_1) }),(2,{ ty:=127,n:=64,row:=Row.t (.ints .u8 x_2) })],nx:=3,sz:=65 }
def ShSU_b3:Code:=bodyL (codeAt [1,1,1,1,1,1,1,1,0,1,2] (codeF fF103))
def ShSU_k3 (fu:Nat):=kAt prog (g_ShSU T0 R0 f0a T1 R1 f1a T2 R2 T3 R3 T4 R4 f4a) fu [1,1,1,1,1,1,1,1,0,1,2] (codeF fF103) (kFin prog fF103)
abbrev ShSU_L3 (fu:Nat) (v48:Int) (x_0 x_1 x_2:List Int):=lpA prog (g_ShSU T0 R0 f0a T1 R1 f1a T2 R2 T3 R3 T4 R4 f4a) fu ShSU_b3 (ShSU_k3 T0 R0 f0a T1 R1 f1a T2 R2 T3 R3 T4 R4 f4a fu ) fu (some (ShSU_s3 v48 x_0 x_1 x_2))
theorem ShSU_c2e2 (fu:Nat) (x_0 x_1:List Int):ShSU_k2 T0 R0 f0a T1 R1 f1a T2 R2 T3 R3 T4 R4 f4a fu  (Ex.exit 2) (ShSU_o2e2 x_0 x_1)=ShSU_L3 T0 R0 f0a T1 R1 f1a T2 R2 T3 R3 T4 R4 f4a fu (0:Int) x_0 x_1 [(0:Int),0,0,0,0,0,0,0,0,0,0,0,0,0,0,0,0,0,0,0,0,0,0,0,0,0,0,0,0,0,0,0,0,0,0,0,0,0,0,0,0,0,0,0,0,0,0,0,0,0,0,0,0,0,0,0,0,0,0,0,0,0,0,0]:=by kernel_rfl
def ShSU_o3e4 (x_0 x_1:List Int):St:={ tm:=[(2,.s (.ptr 0 0 64)),(8,.s (.ptr 1 0 64))],hp:=[(0,{ ty:=127,n:=64,row:=Row.t (.ints .u8 x_0) }),(1,{ ty:=127,n:=64,row:=Row.t (.ints .u8 x_1) })],nx:=2,sz:=65 }
theorem ShSU_r3 {β:Type} (fu:Nat) (G:Option St->Option β) (H:Ex->Option St->Option β) (v48:Int) (x_0 x_1 x_2:List Int):lpR prog (g_ShSU T0 R0 f0a T1 R1 f1a T2 R2 T3 R3 T4 R4 f4a) fu ShSU_b3 G H (ShSU_s3 v48 x_0 x_1 x_2)=bif decide (v48 < (64:Int)) then bif decide ((0:Int) <= i64.wrap (v48.tdiv (8:Int)) /\ i64.wrap (v48.tdiv (8:Int)) < (8:Int)) then bif decide (i64.wrap ((56:Int) - i64.wrap ((8:Int)*v48.tmod (8:Int))) < (0:Int)) then none else bif decide ((0:Int) <= v48 /\ v48 < (64:Int)) then G (some (ShSU_s3 (i64.wrap (v48+(1:Int))) x_0 x_1 (x_2.set (0+v48.toNat) (u8.wrap (bShr .u64 (x_1.getD (0+(i64.wrap (v48.tdiv (8:Int))).toNat) (0:Int)) (i64.wrap ((56:Int) - i64.wrap ((8:Int)*v48.tmod (8:Int))))))))) else none else none else H (Ex.exit 4) (some (ShSU_o3e4 x_0 x_2)):=by kernel_rfl
theorem ShSU_c3e4 (fu:Nat) (x_0 x_1:List Int):ShSU_k3 T0 R0 f0a T1 R1 f1a T2 R2 T3 R3 T4 R4 f4a fu  (Ex.exit 4) (ShSU_o3e4 x_0 x_1)=some (AV.agg (.ints .u8 x_1) 64):=by kernel_rfl
end
def g_ShTX:Cg:=⟨⟨gam [],[],noE⟩,[(4,[1,3,4],[3])]⟩
def ShTX_s1 (n3:Nat) (v4:Int) (x_0:List Int) (m_1:Nat) (x_1:List Int):St:={ tm:=[(1,.s (.ptr 0 0 64)),(3,.s (.own 1 n3 1)),(4,.int .i64 v4)],hp:=[(0,{ ty:=127,n:=64,row:=Row.t (.ints .u8 x_0) }),(1,{ ty:=5,n:=m_1,row:=Row.t (.ints .u8 x_1) })],nx:=2,sz:=18 }
def ShTX_b1:Code:=bodyL (codeAt [1,1,0,1,2] (codeF fF107))
def ShTX_k1 (fu:Nat):=kAt prog g_ShTX fu [1,1,0,1,2] (codeF fF107) (kFin prog fF107)
abbrev ShTX_L1 (fu:Nat) (n3:Nat) (v4:Int) (x_0:List Int) (m_1:Nat) (x_1:List Int):=lpA prog g_ShTX fu ShTX_b1 (ShTX_k1 fu ) fu (some (ShTX_s1 n3 v4 x_0 m_1 x_1))
theorem ShTX_ev (fu:Nat) (s:List Int):afunc prog fF107 g_ShTX fu [.agg (.ints .u8 s) 64]=ShTX_L1 fu 64 (0:Int) s 64 (List.replicate 64 (0:Int)):=by kernel_rfl
def ShTX_o1e0 (n3 m_0:Nat) (x_0:List Int):St:={ tm:=[(3,.s (.own 0 n3 1))],hp:=[(0,{ ty:=5,n:=m_0,row:=Row.t (.ints .u8 x_0) })],nx:=1,sz:=18 }
theorem ShTX_r1 {β:Type} (fu:Nat) (G:Option St->Option β) (H:Ex->Option St->Option β) (n3:Nat) (v4:Int) (x_0:List Int) (m_1:Nat) (x_1:List Int):lpR prog g_ShTX fu ShTX_b1 G H (ShTX_s1 n3 v4 x_0 m_1 x_1)=bif decide (v4 < (64:Int)) then bif decide ((0:Int) <= v4 /\ v4 < (64:Int)) then bif decide ((0:Int) <= v4 /\ v4 < (↑n3:Int)) then G (some (ShTX_s1 n3 (i64.wrap (v4+(1:Int))) x_0 m_1 (x_1.set v4.toNat (x_0.getD (0+v4.toNat) (0:Int))))) else none else none else H (Ex.exit 0) (some (ShTX_o1e0 n3 m_1 x_1)):=by kernel_rfl
theorem ShTX_c1e0 (fu:Nat) (n3 m_0:Nat) (x_0:List Int):ShTX_k1 fu  (Ex.exit 0) (ShTX_o1e0 n3 m_0 x_0)=some (AV.str (List.map b8 x_0)):=by kernel_rfl
def g_ShTW:Cg:=⟨⟨gam [],[],noE⟩,[]⟩
theorem ShTW_ev (fu:Nat) (n:Int):afunc prog fF64 g_ShTW fu [.int .i64 n]=some (AV.str (List.map b8 ([u8.wrap (i64.wrap (n.tdiv (256:Int)))]++[u8.wrap n]))):=by kernel_rfl
def g_ShCT:Cg:=⟨⟨gam [],[],noE⟩,[(4,[3,6,7,8],[3])]⟩
def ShCT_s1 (s3:List UInt8) (x6:List Str) (n6:Nat) (v7 v8:Int):St:={ tm:=[(3,.str s3),(6,.s (.dat (.strs x6) n6 1)),(7,.int .i64 v7),(8,.int .i64 v8)],hp:=[],nx:=0,sz:=27 }
def ShCT_b1:Code:=bodyL (codeAt [1,1,0,1,2] (codeF fF63))
def ShCT_k1 (fu:Nat):=kAt prog g_ShCT fu [1,1,0,1,2] (codeF fF63) (kFin prog fF63)
abbrev ShCT_L1 (fu:Nat) (s3:List UInt8) (x6:List Str) (n6:Nat) (v7 v8:Int):=lpA prog g_ShCT fu ShCT_b1 (ShCT_k1 fu ) fu (some (ShCT_s1 s3 x6 n6 v7 v8))
theorem ShCT_ev (fu:Nat) (ss:List Str) (n:Nat):afunc prog fF63 g_ShCT fu [.s (.dat (.strs ss) n 1)]=ShCT_L1 fu [] ss n (↑n:Int) (0:Int):=by kernel_rfl
def ShCT_o1e0 (s3:List UInt8):St:={ tm:=[(3,.str s3)],hp:=[],nx:=0,sz:=27 }
theorem ShCT_r1 {β:Type} (fu:Nat) (G:Option St->Option β) (H:Ex->Option St->Option β) (s3:List UInt8) (x6:List Str) (n6:Nat) (v7 v8:Int):lpR prog g_ShCT fu ShCT_b1 G H (ShCT_s1 s3 x6 n6 v7 v8)=bif decide (v8 < v7) then bif decide ((0:Int) <= v8 /\ v8 < (↑n6:Int)) then bif decide (2+List.length (x6.getD v8.toNat []) <= 9223372036854775807) then bif decide (s3.length+List.length (List.map b8 ([u8.wrap (bShr .i64 (↑(List.length (x6.getD v8.toNat [])):Int) (8:Int))]++[u8.wrap (↑(List.length (x6.getD v8.toNat [])):Int)])++x6.getD v8.toNat []) <= 9223372036854775807) then G (some (ShCT_s1 (s3++(List.map b8 ([u8.wrap (bShr .i64 (↑(List.length (x6.getD v8.toNat [])):Int) (8:Int))]++[u8.wrap (↑(List.length (x6.getD v8.toNat [])):Int)])++x6.getD v8.toNat [])) x6 n6 v7 (i64.wrap (v8+(1:Int))))) else none else none else none else H (Ex.exit 0) (some (ShCT_o1e0 s3)):=by kernel_rfl
theorem ShCT_c1e0 (fu:Nat) (s3:List UInt8):ShCT_k1 fu  (Ex.exit 0) (ShCT_o1e0 s3)=some (AV.str s3):=by kernel_rfl
abbrev gI_ShSU:Cg:=g_ShSU (List UInt8) rJoin (fun t=>t) (List UInt8) rRepeat (fun t=>t) (PUnit) rBegun (PUnit) rKeys (List Nat) rNext (fun t=>up t)
theorem gok_ShSU:CfOk prog gI_ShSU.c:=⟨gam_cons ok_Join <| gam_cons ok_Repeat <| gam_cons ok_Begun <| gam_cons ok_Keys <| gam_cons ok_Next <| gam_nil,fun _ _ h=>by cases h⟩
abbrev zeros64:List Int:=[0,0,0,0,0,0,0,0,0,0,0,0,0,0,0,0,0,0,0,0,0,0,0,0,0,0,0,0,0,0,0,0,0,0,0,0,0,0,0,0,0,0,0,0,0,0,0,0,0,0,0,0,0,0,0,0,0,0,0,0,0,0,0,0]
theorem dn_up_id (l:List Nat):dn (up l)=l:=by
 rw [dn,up,List.map_map]
 exact (List.map_congr_left fun n _=>Int.toNat_natCast n).trans (List.map_id _)
theorem okL_up {l:List Nat} (h:∀ x ∈ l,x < 18446744073709551616):okL (up l)=true:=by
 induction l with
 | nil=>rfl
 | cons x r ih=>
  show (decide (0 <= (x:Int) /\ (x:Int) < 18446744073709551616) && okL (up r))=true
  have:=h x (by simp)
  rw [decide_eq_true (by omega),ih fun y hy=>h y (by simp [hy])]; rfl
theorem okW_mem {l:List Nat} (h:okW l):∀ x ∈ l,x < 18446744073709551616:=by
 intro x hx
 obtain ⟨i,hi⟩:=List.mem_iff_getElem?.1 hx
 have:=h i
 rw [List.getD_eq_getElem?_getD,hi] at this
 exact this
theorem run_Next {h:List Nat} {b:Str} (hl:h.length=8) (ok:okW h) (hb:b.length=128):rNext [.agg (.ints .u64 (up h)) 8,.s (.rptr (.ints .u64 (up kN)) 0 80),.str b]=some (nextN h b):=by
 show cond (ok8W (up h) && decide (up kN=up kN) && Nat.beq b.length 128) (some (nextN (dn (up h)) b)) none=_
 have e:ok8W (up h)=true:=by rw [ok8W,up_len,hl,okL_up (okW_mem ok)]; rfl
 rw [e,decide_eq_true rfl,hb,dn_up_id]; rfl
theorem mixN_len (s t:List Nat):∀ i,(mixN s t i).length=s.length:=by
 intro i
 induction i with
 | zero=>rfl
 | succ i ih=>rw [mixN,List.length_set,ih]
theorem mixN_ok {s:List Nat} (t:List Nat) (h:okW s):∀ i,okW (mixN s t i):=by
 intro i
 induction i with
 | zero=>exact h
 | succ i ih=>exact okW_set ih _ (W64_lt _)
theorem be_len (n:Nat):∀ k,(be n k).length=k:=by
 intro k
 induction k with
 | zero=>rfl
 | succ k ih=>rw [be,List.length_append,ih]; rfl
theorem run_Begun:rBegun []=some ():=rfl
theorem run_Keys:rKeys []=some ():=rfl
theorem run_Repeat (s:Str) (n:Nat) (h:n <= 140737488355328) (h2:s.length*n <= big47):rRepeat [.str s,.int .i64 (n:Int)]=some (Lib.repeatL s n):=by
 show cond (decide (0 <= (n:Int)) && decide ((n:Int) <= 140737488355328) && Nat.ble (s.length*(n:Int).toNat) big47) (some (Lib.repeatL s (n:Int).toNat)) none=_
 rw [decide_eq_true (by omega),decide_eq_true (by omega),Int.toNat_natCast,show Nat.ble (s.length*n) big47=true by rw [Nat.ble_eq]; exact h2]; rfl
theorem su_loop1 (P:Str) (hP:P.length <= 4398046511104) (m:Nat) (hm:m < 18446744073709551616) (y:List Int) (fu:Nat):∀ (d n k:Nat),k+d=8->d < n ->
  lpA prog gI_ShSU fu ShSU_b1 (ShSU_k1 _ rJoin (fun t=>t) _ rRepeat (fun t=>t) _ rBegun _ rKeys _ rNext (fun t=>up t) fu) n (some (ShSU_s1 (P++be m k) (m:Int) (7 - (k:Int)) y)) =
   ShSU_L2 _ rJoin (fun t=>t) _ rRepeat (fun t=>t) _ rBegun _ rKeys _ rNext (fun t=>up t) fu (P++be m 8) y (up hN) (up kN):=by
 intro d
 induction d with
 | zero=>
  intro n k hk hn
  obtain ⟨n,rfl⟩:=Nat.exists_eq_succ_of_ne_zero (by omega:n ≠ 0)
  have:k=8:=by omega
  subst this
  rw [lpA_succ,ShSU_r1,decide_eq_false (by decide),cond_false,kOut_some,ShSU_c1e0,run_Begun,Option.bind_some,run_Keys,Option.bind_some]
 | succ d ih=>
  intro n k hk hn
  obtain ⟨n,rfl⟩:=Nat.exists_eq_succ_of_ne_zero (by omega:n ≠ 0)
  have h:=ih n (k+1) (by omega) (by omega)
  have hl:=be_len m k
  have hix:i64.wrap ((8:Int)*(7 - (k:Int)))=((8*(7 - k):Nat):Int):=by rw [wi64 (by omega) (by omega)]; omega
  rw [lpA_succ,ShSU_r1,decide_eq_true (by omega),cond_true,hix,decide_eq_false (by omega),cond_false,decide_eq_true (by rw [List.length_append,hl]; omega),cond_true,shr64 _ _ (by omega),wu8n,wi64 (by omega) (by omega),List.append_assoc]
  rw [show (7:Int) - (k:Int) - 1=7 - ((k+1:Nat):Int) by omega]
  exact h
theorem okW_hN:okW hN:=by
 intro i
 by_cases h:i < 8
 ·have:∀ i:Fin 8,hN.getD i.1 0 < 18446744073709551616:=by decide
  exact this ⟨i,h⟩
 ·rw [List.getD_eq_getElem?_getD,List.getElem?_eq_none (by show 8 <= i; omega)]; decide
theorem nextN_len {h:List Nat} (b:Str) (hl:h.length=8):(nextN h b).length=8:=by rw [nextN,mixN_len,hl]
theorem nextN_ok {h:List Nat} (b:Str) (ok:okW h):okW (nextN h b):=mixN_ok _ ok 8
theorem su_loop2 (y:List Int) (fu:Nat):∀ (q n:Nat) (s:Str) (h:List Nat),s.length=128*q->h.length=8->okW h->s.length < 9223372036854775808->q < n ->
  lpA prog gI_ShSU fu ShSU_b2 (ShSU_k2 _ rJoin (fun t=>t) _ rRepeat (fun t=>t) _ rBegun _ rKeys _ rNext (fun t=>up t) fu) n (some (ShSU_s2 s y (up h) (up kN))) =
   ShSU_L3 _ rJoin (fun t=>t) _ rRepeat (fun t=>t) _ rBegun _ rKeys _ rNext (fun t=>up t) fu 0 y (up (blocks h q s)) zeros64:=by
 intro q
 induction q with
 | zero=>
  intro n s h hs hl ok hb hn
  obtain ⟨n,rfl⟩:=Nat.exists_eq_succ_of_ne_zero (by omega:n ≠ 0)
  have:s=[]:=List.eq_nil_of_length_eq_zero (by omega)
  subst this
  rw [lpA_succ,ShSU_r2,decide_eq_true rfl,Bool.not_true,cond_false,kOut_some,ShSU_c2e2]; rfl
 | succ q ih=>
  intro n s h hs hl ok hb hn
  obtain ⟨n,rfl⟩:=Nat.exists_eq_succ_of_ne_zero (by omega:n ≠ 0)
  have hne:¬ s=[]:=fun e=>by rw [e] at hs; simp at hs
  have e1:sl s 0 128=s.take 128:=by rw [sl]; rfl
  have e2:sl s 128 (s.length:Int)=s.drop 128:=by
   rw [sl,List.take_of_length_le]
   ·rfl
   rw [List.length_drop]; show s.length - 128 <= ((s.length:Int) - 128).toNat; omega
  have ht:(s.take 128).length=128:=by rw [List.length_take]; omega
  rw [lpA_succ,ShSU_r2,decide_eq_false hne,Bool.not_false,cond_true,decide_eq_true (by omega),cond_true,e1,run_Next hl ok ht,Option.bind_some,decide_eq_true (by omega),cond_true,e2]
  exact ih n (s.drop 128) (nextN h (s.take 128)) (by rw [List.length_drop]; omega) (nextN_len _ hl) (nextN_ok _ ok) (by rw [List.length_drop]; omega) (by omega)
theorem outB_len (h:List Nat) (k:Nat):(outB h k).length=k:=by rw [outB,List.length_map,List.length_range]
theorem outB_set (h:List Nat) (i:Nat) (hi:i < 64):(up (outB h i)++List.replicate (64 - i) 0).set i ((h.getD (i / 8) 0 / 2 ^ (56 - 8*(i%8))%256:Nat):Int)=up (outB h (i+1))++List.replicate (64 - (i+1)) 0:=by
 have e:up (outB h (i+1))=up (outB h i)++[((h.getD (i / 8) 0 / 2 ^ (56 - 8*(i%8))%256:Nat):Int)]:=by
  rw [outB,List.range_succ,List.map_append,up,List.map_append]; rfl
 have hl:(up (outB h i)).length=i:=by rw [up_len,outB_len]
 rw [e,List.set_append_right _ _ (by rw [hl]; omega),hl,Nat.sub_self,show 64 - i=64 - (i+1)+1 by omega,List.replicate_succ,List.set_cons_zero,List.append_assoc]; rfl
theorem su_loop3 (h:List Nat) (ok:okW h) (y:List Int) (fu:Nat):∀ (d n i:Nat),i+d=64->d < n ->
  lpA prog gI_ShSU fu ShSU_b3 (ShSU_k3 _ rJoin (fun t=>t) _ rRepeat (fun t=>t) _ rBegun _ rKeys _ rNext (fun t=>up t) fu) n (some (ShSU_s3 (i:Int) y (up h) (up (outB h i)++List.replicate (64 - i) 0)))=some (.agg (.ints .u8 (up (outB h 64))) 64):=by
 intro d
 induction d with
 | zero=>
  intro n i hi hn
  obtain ⟨n,rfl⟩:=Nat.exists_eq_succ_of_ne_zero (by omega:n ≠ 0)
  have:i=64:=by omega
  subst this
  rw [lpA_succ,ShSU_r3,decide_eq_false (by decide),cond_false,kOut_some,ShSU_c3e4,Nat.sub_self,List.replicate_zero,List.append_nil]
 | succ d ih=>
  intro n i hi hn
  obtain ⟨n,rfl⟩:=Nat.exists_eq_succ_of_ne_zero (by omega:n ≠ 0)
  have h':=ih n (i+1) (by omega) (by omega)
  have h1:((i:Nat):Int).tdiv 8=((i / 8:Nat):Int):=by rw [Int.tdiv_eq_ediv_of_nonneg (by omega)]; omega
  have h2:((i:Nat):Int).tmod 8=((i%8:Nat):Int):=by rw [Int.tmod_eq_emod_of_nonneg (by omega)]; omega
  have e1:i64.wrap (((i:Nat):Int).tdiv 8)=((i / 8:Nat):Int):=by rw [h1]; exact wi64 (by omega) (by omega)
  have e2:i64.wrap ((56:Int) - i64.wrap ((8:Int)*((i:Nat):Int).tmod 8))=((56 - 8*(i%8):Nat):Int):=by
   rw [h2,wi64 (n:=8*((i%8:Nat):Int)) (by omega) (by omega),wi64 (by omega) (by omega)]; omega
  rw [lpA_succ,ShSU_r3,decide_eq_true (by omega),cond_true,e1,e2,decide_eq_true (by omega),cond_true,decide_eq_false (by omega),cond_false,decide_eq_true (by omega),cond_true,Int.toNat_natCast,Int.toNat_natCast,Nat.zero_add,Nat.zero_add,up_getD,shr64 _ _ (by omega),wu8n,wi64 (by omega) (by omega),outB_set h i (by omega)]
  exact h'
theorem blocks_ok:∀ (q:Nat) (s:Str) (h:List Nat),okW h->okW (blocks h q s):=by
 intro q
 induction q with
 | zero=>intro s h ok; exact ok
 | succ q ih=>intro s h ok; exact ih _ _ (nextN_ok _ ok)
theorem rep_len (p:Nat):(Lib.repeatL ([0]:Str) p).length=p:=by rw [Lib.repeatL_length]; simp
theorem padN_len (t:Str):(padN t).length=t.length+1+(247 - t.length%128)%128:=by
 rw [padN,List.length_append,List.length_append,rep_len]; simp; omega
theorem full_len (t:Str):(full t).length=128*((full t).length / 128):=by
 have:(full t).length=t.length+1+(247 - t.length%128)%128+8:=by rw [full,List.length_append,padN_len,be_len]
 omega
theorem zeros64_eq (h:List Nat):up (outB h 0)++List.replicate (64 - 0) 0=zeros64:=rfl
theorem run_Join {ss:List Str} {n:Nat} (h:okSum ss n=true):rJoin [.s (.dat (.strs ss) n 1),.str []]=some (Lib.join ss []):=by
 simp only [okSum,Bool.and_eq_true,Nat.ble_eq] at h
 show cond (Nat.beq n ss.length && Nat.ble ss.length big47 && Nat.ble (Lib.join ss []).length big47) (some (Lib.join ss [])) none=_
 have a:Nat.ble ss.length big47=true:=by rw [Nat.ble_eq]; exact Nat.le_trans h.1.2 (by decide)
 have b:Nat.ble (Lib.join ss []).length big47=true:=by rw [Nat.ble_eq]; exact Nat.le_trans h.2 (by decide)
 rw [h.1.1,a,b]; rfl
theorem su_all (ss:List Str) (n:Nat) (h:okSum ss n=true) (fu:Nat) (hf:(full (Lib.join ss [])).length+100 < fu) :
  afunc prog fF103 gI_ShSU fu [.s (.dat (.strs ss) n 1)]=some (.agg (.ints .u8 (up (sumB (Lib.join ss [])))) 64):=by
 refine (ShSU_ev ..).trans ?_
 rw [run_Join h,Option.bind_some]
 simp only [okSum,Bool.and_eq_true,Nat.ble_eq] at h
 have hb:=h.2
 generalize Lib.join ss []=t at hb hf ⊢
 have hp:(i64.wrap ((247:Int) - ((t.length:Nat):Int).tmod 128)).tmod 128=(((247 - t.length%128)%128:Nat):Int):=by
  have h2:((t.length:Nat):Int).tmod 128=((t.length%128:Nat):Int):=by rw [Int.tmod_eq_emod_of_nonneg (by omega)]; omega
  rw [h2,wi64 (by omega) (by omega),show (247:Int) - ((t.length%128:Nat):Int)=((247 - t.length%128:Nat):Int) by omega,Int.tmod_eq_emod_of_nonneg (by omega)]; omega
 have hr:=rep_len ((247 - t.length%128)%128)
 rw [hp,run_Repeat _ _ (by omega) (Nat.le_trans (show 1*((247 - t.length%128)%128) <= 128 by omega) (by decide)),Option.bind_some,decide_eq_true (by omega),cond_true,decide_eq_true (by rw [List.length_append,hr]; show t.length+(1+_) <= _; omega),cond_true]
 have hw:u64.wrap (u64.wrap ((t.length:Nat):Int)*8)=((t.length*8:Nat):Int):=by
  rw [wu64n,Nat.mod_eq_of_lt (by omega),show ((t.length:Nat):Int)*8=((t.length*8:Nat):Int) by omega,wu64n,Nat.mod_eq_of_lt (by omega)]
 rw [hw]
 have hl:=padN_len t
 have a:=su_loop1 (padN t) (by omega) (t.length*8) (by omega) zeros64 fu 8 fu 0 (by omega) (by omega)
 have fl:=full_len t
 have b:=su_loop2 zeros64 fu ((full t).length / 128) fu (full t) hN fl rfl okW_hN (by rw [full,List.length_append,be_len]; omega) (by omega)
 have c:=su_loop3 (blocks hN ((full t).length / 128) (full t)) (blocks_ok _ _ _ okW_hN) zeros64 fu 64 fu 0 (by omega) (by omega)
 rw [zeros64_eq] at c
 rw [show padN t++be (t.length*8) 0=padN t from List.append_nil _] at a
 exact Eq.trans a (Eq.trans b c)
theorem ok_Sum:CallOk prog nF103 sSum:=by
 refine afunc_okE (g:=gI_ShSU) (fu:=fun args=>match args with | [.c (.s (.dat (.strs ss) n 1))]=>(full (Lib.join ss [])).length+101 | _=>0) mixed gok_ShSU hF103 (by kernel_rfl) ?_
 intro args t ht
 unfold sSum at ht
 simp only at ht
 split at ht
 ·rename_i ss n
  obtain ⟨h1,h2⟩:=ctrueS ht
  subst h2
  exact su_all ss n h1 _ (Nat.lt_succ_self _)
 ·cases ht
abbrev gI_ShTW:Cg:=g_ShTW 
theorem gok_ShTW:CfOk prog gI_ShTW.c:=⟨gam_nil,fun _ _ h=>by cases h⟩
def pre2 (n:Nat):Str:=[b8 ((n / 256%256:Nat):Int),b8 ((n%256:Nat):Int)]
def cntL:List Str->Str
 | []=>[]
 | p :: r=>pre2 p.length++p++cntL r
def sCounted:Summ where
 T:=Str
 run:=fun
  | [.c (.s (.dat (.strs ss) n 1))]=>cond (Nat.beq n ss.length && Nat.ble ss.length 1048576 && Nat.ble (cntL ss).length 1099511627776) (some (cntL ss)) none
  | _=>none
 enc:=fun t=>.str t
def rCounted:List AV->Option Str:=sCounted.run
def sTwoB:Summ where
 T:=Str
 run:=fun
  | [.c (.s (.pl (.int .i64 n)))]=>cond (decide (0 <= n /\ n < 4611686018427387904)) (some (pre2 n.toNat)) none
  | _=>none
 enc:=fun t=>.str t
def rTwoB:List AV->Option Str:=sTwoB.run
def sText:Summ where
 T:=Str
 run:=fun
  | [.c (.s (.pl (.agg (.ints .u8 a) 64)))]=>cond (Nat.beq a.length 64) (some (a.map b8)) none
  | _=>none
 enc:=fun t=>.str t
def rText:List AV->Option Str:=sText.run
theorem shrI64 (x n:Nat) (h:n < 64) (hx:x < 9223372036854775808):bShr .i64 (x:Int) (n:Int)=((x / 2 ^ n:Nat):Int):=by
 unfold bShr
 have:min ((n:Int).toNat) (IntKind.bits .i64)=n:=by
  simp [IntKind.bits]; omega
 rw [this,Int.fdiv_eq_ediv_of_nonneg _ (by exact_mod_cast Nat.zero_le _)]
 push_cast
 rfl
theorem ok_Two:CallOk prog nF64 sTwoB:=by
 refine afunc_okE (g:=gI_ShTW) (fu:=fun _=>0) mixed gok_ShTW hF64 (by kernel_rfl) ?_
 intro args t ht
 unfold sTwoB at ht
 simp only at ht
 split at ht
 ·rename_i n
  obtain ⟨h1,h2⟩:=ctrueS ht
  subst h2
  have h1:=of_decide_eq_true h1
  obtain ⟨k,rfl⟩:=Int.eq_ofNat_of_zero_le h1.1
  refine (ShTW_ev ..).trans ?_
  rw [Int.tdiv_eq_ediv_of_nonneg (by omega),show ((k:Int) / 256)=((k / 256:Nat):Int) by omega,wi64 (by omega) (by omega),wu8n,wu8n]; rfl
 ·cases ht
section
variable (T0:Type) (R0:List AV->Option T0) (f0a:T0->List Int)
def g_ShSH:Cg:=⟨⟨gam [(nF103,⟨R0,fun t=>AV.agg (.ints .u8 (f0a t)) 64⟩)],[],noE⟩,[]⟩
theorem ShSH_ev (fu:Nat) (k:Int) (ss:List Str) (n:Nat):afunc prog fF163 (g_ShSH T0 R0 f0a) fu [.int .i64 k,.s (.dat (.strs ss) n 1)]=(R0 [.s (.dat (.strs ss) n 1)]).bind fun t=>bif decide ((0:Int) <= (0:Int) /\ ((0:Int) <= if (64:Int) < if (0:Int) > k then (0:Int) else k then (64:Int) else if (0:Int) > k then (0:Int) else k) /\ (if (64:Int) < if (0:Int) > k then (0:Int) else k then (64:Int) else if (0:Int) > k then (0:Int) else k) <= (64:Int)) then some (AV.str (List.map b8 (List.take ((if (64:Int) < if (0:Int) > k then (0:Int) else k then (64:Int) else if (0:Int) > k then (0:Int) else k) - (0:Int)).toNat (List.drop 0 (f0a t))))) else none:=by kernel_rfl
end
section
variable (T0:Type) (R0:List AV->Option T0) (T1:Type) (R1:List AV->Option T1) (f1a:T1->Int)
def g_ShRS:Cg:=⟨⟨gam [(nF139,⟨R0,fun t=>AV.s (.dat (.ints .u64 (up kN)) (80) 1)⟩),(nF140,⟨R1,fun t=>AV.int .u64 (f1a t)⟩)],[26,53],noE⟩,[(5,[2,3,4],[2,3,4]),(8,[2,3,4,5],[2,3]),(14,[2,3,6,7,8],[2,6]),(18,[2,3,6,7,8,9,10],[2,3,6,7,8,9]),(21,[2,3,6,7,8,9,10,11],[2,3,6,7,8,9,10]),(25,[2,3,6,7,8,9,12],[2,3,6,7,8,9]),(32,[2,3,6,7,8,9,15,16],[2,3,6,7,8,15]),(41,[2,3,6,7,8,15,22],[2,3,6,7,8]),(46,[2,6,23,24],[2,23])]⟩
def ShRS_s1 (n3:Nat) (v4:Int) (x_0:List Int) (m_1:Nat) (x_1:List Int):St:={ tm:=[(2,.s (.ptr 0 0 64)),(3,.s (.own 1 n3 1)),(4,.int .u64 v4)],hp:=[(0,{ ty:=127,n:=64,row:=Row.t (.ints .u8 x_0) }),(1,{ ty:=5,n:=m_1,row:=Row.t (.ints .u8 x_1) })],nx:=2,sz:=327 }
def ShRS_b1:Code:=bodyL (codeAt [1,1,1,1,0,2] (codeF fF108))
def ShRS_k1 (fu:Nat):=kAt prog (g_ShRS T0 R0 T1 R1 f1a) fu [1,1,1,1,0,2] (codeF fF108) (kFin prog fF108)
abbrev ShRS_L1 (fu:Nat) (n3:Nat) (v4:Int) (x_0:List Int) (m_1:Nat) (x_1:List Int):=lpA prog (g_ShRS T0 R0 T1 R1 f1a) fu ShRS_b1 (ShRS_k1 T0 R0 T1 R1 f1a fu ) fu (some (ShRS_s1 n3 v4 x_0 m_1 x_1))
theorem ShRS_ev (fu:Nat) (s:Str):afunc prog fF108 (g_ShRS T0 R0 T1 R1 f1a) fu [.str s]=bif decide (List.length s <= 1099511627776) then bif decide (List.length s+1 <= 1099511627776) then ShRS_L1 T0 R0 T1 R1 f1a fu (List.length s+1) (u64.wrap (u64.wrap (↑(List.length s):Int)*(8:Int))) [(0:Int),0,0,0,0,0,0,0,0,0,0,0,0,0,0,0,0,0,0,0,0,0,0,0,0,0,0,0,0,0,0,0,0,0,0,0,0,0,0,0,0,0,0,0,0,0,0,0,0,0,0,0,0,0,0,0,0,0,0,0,0,0,0,0] ((List.length s+1)*1) (List.map ofB s++[(128:Int)]) else none else none:=by kernel_rfl
def ShRS_o1e0 (n3:Nat) (v4:Int) (x_0:List Int) (m_1:Nat) (x_1:List Int):St:={ tm:=[(2,.s (.ptr 0 0 64)),(3,.s (.own 1 n3 1)),(4,.int .u64 v4)],hp:=[(0,{ ty:=127,n:=64,row:=Row.t (.ints .u8 x_0) }),(1,{ ty:=5,n:=m_1,row:=Row.t (.ints .u8 x_1) })],nx:=2,sz:=327 }
theorem ShRS_r1 {β:Type} (fu:Nat) (G:Option St->Option β) (H:Ex->Option St->Option β) (n3:Nat) (v4:Int) (x_0:List Int) (m_1:Nat) (x_1:List Int):lpR prog (g_ShRS T0 R0 T1 R1 f1a) fu ShRS_b1 G H (ShRS_s1 n3 v4 x_0 m_1 x_1)=bif !decide ((↑n3:Int).tmod (128:Int)=(120:Int)) then bif decide (n3+1 <= 1099511627776) then G (some (ShRS_s1 (n3+1) v4 x_0 ((n3+1)*1) (x_1++[(0:Int)]))) else none else H (Ex.exit 0) (some (ShRS_o1e0 n3 v4 x_0 m_1 x_1)):=by kernel_rfl
def ShRS_s2 (n3:Nat) (v4 v5:Int) (x_0:List Int) (m_1:Nat) (x_1:List Int):St:={ tm:=[(2,.s (.ptr 0 0 64)),(3,.s (.own 1 n3 1)),(4,.int .u64 v4),(5,.int .i64 v5)],hp:=[(0,{ ty:=127,n:=64,row:=Row.t (.ints .u8 x_0) }),(1,{ ty:=5,n:=m_1,row:=Row.t (.ints .u8 x_1) })],nx:=2,sz:=327 }
def ShRS_b2:Code:=bodyL (codeAt [1,1,1,1,1,0,1,2] (codeF fF108))
def ShRS_k2 (fu:Nat):=kAt prog (g_ShRS T0 R0 T1 R1 f1a) fu [1,1,1,1,1,0,1,2] (codeF fF108) (kFin prog fF108)
abbrev ShRS_L2 (fu:Nat) (n3:Nat) (v4 v5:Int) (x_0:List Int) (m_1:Nat) (x_1:List Int):=lpA prog (g_ShRS T0 R0 T1 R1 f1a) fu ShRS_b2 (ShRS_k2 T0 R0 T1 R1 f1a fu ) fu (some (ShRS_s2 n3 v4 v5 x_0 m_1 x_1))
theorem ShRS_c1e0 (fu:Nat) (n3:Nat) (v4:Int) (x_0:List Int) (m_1:Nat) (x_1:List Int):ShRS_k1 T0 R0 T1 R1 f1a fu  (Ex.exit 0) (ShRS_o1e0 n3 v4 x_0 m_1 x_1)=ShRS_L2 T0 R0 T1 R1 f1a fu n3 v4 (7:Int) x_0 m_1 x_1:=by kernel_rfl
def ShRS_o2e2 (n3:Nat) (x_0:List Int) (m_1:Nat) (x_1:List Int):St:={ tm:=[(2,.s (.ptr 0 0 64)),(3,.s (.own 1 n3 1))],hp:=[(0,{ ty:=127,n:=64,row:=Row.t (.ints .u8 x_0) }),(1,{ ty:=5,n:=m_1,row:=Row.t (.ints .u8 x_1) })],nx:=2,sz:=327 }
theorem ShRS_r2 {β:Type} (fu:Nat) (G:Option St->Option β) (H:Ex->Option St->Option β) (n3:Nat) (v4 v5:Int) (x_0:List Int) (m_1:Nat) (x_1:List Int):lpR prog (g_ShRS T0 R0 T1 R1 f1a) fu ShRS_b2 G H (ShRS_s2 n3 v4 v5 x_0 m_1 x_1)=bif decide ((0:Int) <= v5) then bif decide (i64.wrap ((8:Int)*v5) < (0:Int)) then none else bif decide (n3+1 <= 1099511627776) then G (some (ShRS_s2 (n3+1) v4 (i64.wrap (v5 - (1:Int))) x_0 ((n3+1)*1) (x_1++[u8.wrap (bShr .u64 v4 (i64.wrap ((8:Int)*v5)))]))) else none else H (Ex.exit 2) (some (ShRS_o2e2 n3 x_0 m_1 x_1)):=by kernel_rfl
def ShRS_s3 (n3 n6:Nat) (x7:List Int) (n7:Nat) (v8:Int) (x_0:List Int) (m_1:Nat) (x_1:List Int) (m_2:Nat) (x_2:List Int):St:={ tm:=[(2,.s (.ptr 0 0 64)),(3,.s (.own 1 n3 1)),(6,.s (.own 2 n6 1)),(7,.s (.dat (.ints .u64 x7) n7 1)),(8,.int .i64 v8)],hp:=[(0,{ ty:=127,n:=64,row:=Row.t (.ints .u8 x_0) }),(1,{ ty:=5,n:=m_1,row:=Row.t (.ints .u8 x_1) }),(2,{ ty:=25,n:=m_2,row:=Row.t (.ints .u64 x_2) })],nx:=3,sz:=327 }
def ShRS_b3:Code:=bodyL (codeAt [1,1,1,1,1,1,1,1,0,1,2] (codeF fF108))
def ShRS_k3 (fu:Nat):=kAt prog (g_ShRS T0 R0 T1 R1 f1a) fu [1,1,1,1,1,1,1,1,0,1,2] (codeF fF108) (kFin prog fF108)
abbrev ShRS_L3 (fu:Nat) (n3 n6:Nat) (x7:List Int) (n7:Nat) (v8:Int) (x_0:List Int) (m_1:Nat) (x_1:List Int) (m_2:Nat) (x_2:List Int):=lpA prog (g_ShRS T0 R0 T1 R1 f1a) fu ShRS_b3 (ShRS_k3 T0 R0 T1 R1 f1a fu ) fu (some (ShRS_s3 n3 n6 x7 n7 v8 x_0 m_1 x_1 m_2 x_2))
theorem ShRS_c2e2 (fu:Nat) (n3:Nat) (x_0:List Int) (m_1:Nat) (x_1:List Int):ShRS_k2 T0 R0 T1 R1 f1a fu  (Ex.exit 2) (ShRS_o2e2 n3 x_0 m_1 x_1)=(R0 []).bind fun t=>ShRS_L3 T0 R0 T1 R1 f1a fu n3 8 (up kN) 80 (0:Int) x_0 m_1 x_1 8 ([(7640891576956012808:Int)]++([(13503953896175478587:Int)]++([(4354685564936845355:Int)]++([(11912009170470909681:Int)]++([(5840696475078001361:Int)]++([(11170449401992604703:Int)]++([(2270897969802886507:Int)]++[(6620516959819538809:Int)]))))))):=by kernel_rfl
def ShRS_s4 (n3 n6:Nat) (x7:List Int) (n7:Nat) (v8:Int) (n9:Nat) (v10:Int) (x_0:List Int) (m_1:Nat) (x_1:List Int) (m_2:Nat) (x_2:List Int) (m_3:Nat) (x_3:List Int):St:={ tm:=[(2,.s (.ptr 0 0 64)),(3,.s (.own 1 n3 1)),(6,.s (.own 2 n6 1)),(7,.s (.dat (.ints .u64 x7) n7 1)),(8,.int .i64 v8),(9,.s (.own 3 n9 1)),(10,.int .i64 v10)],hp:=[(0,{ ty:=127,n:=64,row:=Row.t (.ints .u8 x_0) }),(1,{ ty:=5,n:=m_1,row:=Row.t (.ints .u8 x_1) }),(2,{ ty:=25,n:=m_2,row:=Row.t (.ints .u64 x_2) }),(3,{ ty:=25,n:=m_3,row:=Row.t (.ints .u64 x_3) })],nx:=4,sz:=327 }
def ShRS_b4:Code:=bodyL (codeAt [1,1,1,1,1,1,1,1,0,1,2,6,1,0,2,1,0,1,2] (codeF fF108))
def ShRS_k4 {β:Type} (fu:Nat) (G:Option St->Option β) (H:Ex->Option St->Option β):=kAt prog (g_ShRS T0 R0 T1 R1 f1a) fu [1,0,2,1,0,1,2] ShRS_b3 (kRound (g_ShRS T0 R0 T1 R1 f1a) ShRS_b3 G H)
abbrev ShRS_L4 {β:Type} (fu:Nat) (G:Option St->Option β) (H:Ex->Option St->Option β) (n3 n6:Nat) (x7:List Int) (n7:Nat) (v8:Int) (n9:Nat) (v10:Int) (x_0:List Int) (m_1:Nat) (x_1:List Int) (m_2:Nat) (x_2:List Int) (m_3:Nat) (x_3:List Int):=lpA prog (g_ShRS T0 R0 T1 R1 f1a) fu ShRS_b4 (ShRS_k4 T0 R0 T1 R1 f1a fu G H) fu (some (ShRS_s4 n3 n6 x7 n7 v8 n9 v10 x_0 m_1 x_1 m_2 x_2 m_3 x_3))
def ShRS_o3e4 (n6:Nat) (x_0:List Int) (m_1:Nat) (x_1:List Int):St:={ tm:=[(2,.s (.ptr 0 0 64)),(6,.s (.own 1 n6 1))],hp:=[(0,{ ty:=127,n:=64,row:=Row.t (.ints .u8 x_0) }),(1,{ ty:=25,n:=m_1,row:=Row.t (.ints .u64 x_1) })],nx:=2,sz:=327 }
theorem ShRS_r3 {β:Type} (fu:Nat) (G:Option St->Option β) (H:Ex->Option St->Option β) (n3 n6:Nat) (x7:List Int) (n7:Nat) (v8:Int) (x_0:List Int) (m_1:Nat) (x_1:List Int) (m_2:Nat) (x_2:List Int):lpR prog (g_ShRS T0 R0 T1 R1 f1a) fu ShRS_b3 G H (ShRS_s3 n3 n6 x7 n7 v8 x_0 m_1 x_1 m_2 x_2)=bif decide (v8 < (↑n3:Int)) then ShRS_L4 T0 R0 T1 R1 f1a fu G H n3 n6 x7 n7 v8 80 (0:Int) x_0 m_1 x_1 m_2 x_2 80 (List.replicate 80 (0:Int)) else H (Ex.exit 4) (some (ShRS_o3e4 n6 x_0 m_2 x_2)):=by kernel_rfl
def ShRS_s5 (n3 n6:Nat) (x7:List Int) (n7:Nat) (v8:Int) (n9:Nat) (v10 v11:Int) (x_0:List Int) (m_1:Nat) (x_1:List Int) (m_2:Nat) (x_2:List Int) (m_3:Nat) (x_3:List Int):St:={ tm:=[(2,.s (.ptr 0 0 64)),(3,.s (.own 1 n3 1)),(6,.s (.own 2 n6 1)),(7,.s (.dat (.ints .u64 x7) n7 1)),(8,.int .i64 v8),(9,.s (.own 3 n9 1)),(10,.int .i64 v10),(11,.int .i64 v11)],hp:=[(0,{ ty:=127,n:=64,row:=Row.t (.ints .u8 x_0) }),(1,{ ty:=5,n:=m_1,row:=Row.t (.ints .u8 x_1) }),(2,{ ty:=25,n:=m_2,row:=Row.t (.ints .u64 x_2) }),(3,{ ty:=25,n:=m_3,row:=Row.t (.ints .u64 x_3) })],nx:=4,sz:=327 }
def ShRS_b5:Code:=bodyL (codeAt [1,1,1,1,1,1,1,1,0,1,2,6,1,0,2,1,0,1,2,6,1,0,2,1,2] (codeF fF108))
def ShRS_k5 {β:Type} (fu:Nat) (G:Option St->Option β) (H:Ex->Option St->Option β):=kAt prog (g_ShRS T0 R0 T1 R1 f1a) fu [1,0,2,1,2] ShRS_b4 (kRound (g_ShRS T0 R0 T1 R1 f1a) ShRS_b4 G H)
abbrev ShRS_L5 {β:Type} (fu:Nat) (G:Option St->Option β) (H:Ex->Option St->Option β) (n3 n6:Nat) (x7:List Int) (n7:Nat) (v8:Int) (n9:Nat) (v10 v11:Int) (x_0:List Int) (m_1:Nat) (x_1:List Int) (m_2:Nat) (x_2:List Int) (m_3:Nat) (x_3:List Int):=lpA prog (g_ShRS T0 R0 T1 R1 f1a) fu ShRS_b5 (ShRS_k5 T0 R0 T1 R1 f1a fu G H) fu (some (ShRS_s5 n3 n6 x7 n7 v8 n9 v10 v11 x_0 m_1 x_1 m_2 x_2 m_3 x_3))
def ShRS_o4e6 (n3 n6:Nat) (x7:List Int) (n7:Nat) (v8:Int) (n9:Nat) (x_0:List Int) (m_1:Nat) (x_1:List Int) (m_2:Nat) (x_2:List Int) (m_3:Nat) (x_3:List Int):St:={ tm:=[(2,.s (.ptr 0 0 64)),(3,.s (.own 1 n3 1)),(6,.s (.own 2 n6 1)),(7,.s (.dat (.ints .u64 x7) n7 1)),(8,.int .i64 v8),(9,.s (.own 3 n9 1))],hp:=[(0,{ ty:=127,n:=64,row:=Row.t (.ints .u8 x_0) }),(1,{ ty:=5,n:=m_1,row:=Row.t (.ints .u8 x_1) }),(2,{ ty:=25,n:=m_2,row:=Row.t (.ints .u64 x_2) }),(3,{ ty:=25,n:=m_3,row:=Row.t (.ints .u64 x_3) })],nx:=4,sz:=327 }
theorem ShRS_r4 {β:Type} (fu:Nat) (G:Option St->Option β) (H:Ex->Option St->Option β) (n3 n6:Nat) (x7:List Int) (n7:Nat) (v8:Int) (n9:Nat) (v10:Int) (x_0:List Int) (m_1:Nat) (x_1:List Int) (m_2:Nat) (x_2:List Int) (m_3:Nat) (x_3:List Int):lpR prog (g_ShRS T0 R0 T1 R1 f1a) fu ShRS_b4 G H (ShRS_s4 n3 n6 x7 n7 v8 n9 v10 x_0 m_1 x_1 m_2 x_2 m_3 x_3)=bif decide (v10 < (16:Int)) then ShRS_L5 T0 R0 T1 R1 f1a fu G H n3 n6 x7 n7 v8 n9 v10 (0:Int) x_0 m_1 x_1 m_2 x_2 m_3 x_3 else H (Ex.exit 6) (some (ShRS_o4e6 n3 n6 x7 n7 v8 n9 x_0 m_1 x_1 m_2 x_2 m_3 x_3)):=by kernel_rfl
def ShRS_s9 (n6:Nat) (v24:Int) (x_0:List Int) (m_1:Nat) (x_1 x_2:List Int):St:={ tm:=[(2,.s (.ptr 0 0 64)),(6,.s (.own 1 n6 1)),(23,.s (.ptr 2 0 64)),(24,.int .i64 v24)],hp:=[(0,{ ty:=127,n:=64,row:=Row.t (.ints .u8 x_0) }),(1,{ ty:=25,n:=m_1,row:=Row.t (.ints .u64 x_1) }),(2,{ ty:=127,n:=64,row:=Row.t (.ints .u8 x_2) })],nx:=3,sz:=327 }
def ShRS_b9:Code:=bodyL (codeAt [1,1,1,1,1,1,1,1,1,1,0,1,2] (codeF fF108))
def ShRS_k9 (fu:Nat):=kAt prog (g_ShRS T0 R0 T1 R1 f1a) fu [1,1,1,1,1,1,1,1,1,1,0,1,2] (codeF fF108) (kFin prog fF108)
abbrev ShRS_L9 (fu:Nat) (n6:Nat) (v24:Int) (x_0:List Int) (m_1:Nat) (x_1 x_2:List Int):=lpA prog (g_ShRS T0 R0 T1 R1 f1a) fu ShRS_b9 (ShRS_k9 T0 R0 T1 R1 f1a fu ) fu (some (ShRS_s9 n6 v24 x_0 m_1 x_1 x_2))
theorem ShRS_c3e4 (fu:Nat) (n6:Nat) (x_0:List Int) (m_1:Nat) (x_1:List Int):ShRS_k3 T0 R0 T1 R1 f1a fu  (Ex.exit 4) (ShRS_o3e4 n6 x_0 m_1 x_1)=ShRS_L9 T0 R0 T1 R1 f1a fu n6 (0:Int) x_0 m_1 x_1 [(0:Int),0,0,0,0,0,0,0,0,0,0,0,0,0,0,0,0,0,0,0,0,0,0,0,0,0,0,0,0,0,0,0,0,0,0,0,0,0,0,0,0,0,0,0,0,0,0,0,0,0,0,0,0,0,0,0,0,0,0,0,0,0,0,0]:=by kernel_rfl
def ShRS_o5e8 (n3 n6:Nat) (x7:List Int) (n7:Nat) (v8:Int) (n9:Nat) (v10:Int) (x_0:List Int) (m_1:Nat) (x_1:List Int) (m_2:Nat) (x_2:List Int) (m_3:Nat) (x_3:List Int):St:={ tm:=[(2,.s (.ptr 0 0 64)),(3,.s (.own 1 n3 1)),(6,.s (.own 2 n6 1)),(7,.s (.dat (.ints .u64 x7) n7 1)),(8,.int .i64 v8),(9,.s (.own 3 n9 1)),(10,.int .i64 v10)],hp:=[(0,{ ty:=127,n:=64,row:=Row.t (.ints .u8 x_0) }),(1,{ ty:=5,n:=m_1,row:=Row.t (.ints .u8 x_1) }),(2,{ ty:=25,n:=m_2,row:=Row.t (.ints .u64 x_2) }),(3,{ ty:=25,n:=m_3,row:=Row.t (.ints .u64 x_3) })],nx:=4,sz:=327 }
theorem ShRS_r5 {β:Type} (fu:Nat) (G:Option St->Option β) (H:Ex->Option St->Option β) (n3 n6:Nat) (x7:List Int) (n7:Nat) (v8:Int) (n9:Nat) (v10 v11:Int) (x_0:List Int) (m_1:Nat) (x_1:List Int) (m_2:Nat) (x_2:List Int) (m_3:Nat) (x_3:List Int):lpR prog (g_ShRS T0 R0 T1 R1 f1a) fu ShRS_b5 G H (ShRS_s5 n3 n6 x7 n7 v8 n9 v10 v11 x_0 m_1 x_1 m_2 x_2 m_3 x_3)=bif decide (v11 < (8:Int)) then bif decide ((0:Int) <= v10 /\ v10 < (↑n9:Int)) then bif decide ((0:Int) <= i64.wrap (i64.wrap (v8+i64.wrap ((8:Int)*v10))+v11) /\ i64.wrap (i64.wrap (v8+i64.wrap ((8:Int)*v10))+v11) < (↑n3:Int)) then bif decide ((0:Int) <= v10 /\ v10 < (↑n9:Int)) then G (some (ShRS_s5 n3 n6 x7 n7 v8 n9 v10 (i64.wrap (v11+(1:Int))) x_0 m_1 x_1 m_2 x_2 m_3 (x_3.set v10.toNat (u64.wrap (u64.wrap (x_3.getD v10.toNat (0:Int)*(256:Int))+u64.wrap (x_1.getD (i64.wrap (i64.wrap (v8+i64.wrap ((8:Int)*v10))+v11)).toNat (0:Int))))))) else none else none else none else H (Ex.exit 8) (some (ShRS_o5e8 n3 n6 x7 n7 v8 n9 v10 x_0 m_1 x_1 m_2 x_2 m_3 x_3)):=by kernel_rfl
def ShRS_s6 (n3 n6:Nat) (x7:List Int) (n7:Nat) (v8:Int) (n9:Nat) (v12:Int) (x_0:List Int) (m_1:Nat) (x_1:List Int) (m_2:Nat) (x_2:List Int) (m_3:Nat) (x_3:List Int):St:={ tm:=[(2,.s (.ptr 0 0 64)),(3,.s (.own 1 n3 1)),(6,.s (.own 2 n6 1)),(7,.s (.dat (.ints .u64 x7) n7 1)),(8,.int .i64 v8),(9,.s (.own 3 n9 1)),(12,.int .i64 v12)],hp:=[(0,{ ty:=127,n:=64,row:=Row.t (.ints .u8 x_0) }),(1,{ ty:=5,n:=m_1,row:=Row.t (.ints .u8 x_1) }),(2,{ ty:=25,n:=m_2,row:=Row.t (.ints .u64 x_2) }),(3,{ ty:=25,n:=m_3,row:=Row.t (.ints .u64 x_3) })],nx:=4,sz:=327 }
def ShRS_b6:Code:=bodyL (codeAt [1,1,1,1,1,1,1,1,0,1,2,6,1,0,2,1,1,0,1,2] (codeF fF108))
def ShRS_k6 {β:Type} (fu:Nat) (G:Option St->Option β) (H:Ex->Option St->Option β):=kAt prog (g_ShRS T0 R0 T1 R1 f1a) fu [1,0,2,1,1,0,1,2] ShRS_b3 (kRound (g_ShRS T0 R0 T1 R1 f1a) ShRS_b3 G H)
abbrev ShRS_L6 {β:Type} (fu:Nat) (G:Option St->Option β) (H:Ex->Option St->Option β) (n3 n6:Nat) (x7:List Int) (n7:Nat) (v8:Int) (n9:Nat) (v12:Int) (x_0:List Int) (m_1:Nat) (x_1:List Int) (m_2:Nat) (x_2:List Int) (m_3:Nat) (x_3:List Int):=lpA prog (g_ShRS T0 R0 T1 R1 f1a) fu ShRS_b6 (ShRS_k6 T0 R0 T1 R1 f1a fu G H) fu (some (ShRS_s6 n3 n6 x7 n7 v8 n9 v12 x_0 m_1 x_1 m_2 x_2 m_3 x_3))
theorem ShRS_c4e6 {β:Type} (fu:Nat) (G:Option St->Option β) (H:Ex->Option St->Option β) (n3 n6:Nat) (x7:List Int) (n7:Nat) (v8:Int) (n9:Nat) (x_0:List Int) (m_1:Nat) (x_1:List Int) (m_2:Nat) (x_2:List Int) (m_3:Nat) (x_3:List Int):ShRS_k4 T0 R0 T1 R1 f1a fu G H (Ex.exit 6) (ShRS_o4e6 n3 n6 x7 n7 v8 n9 x_0 m_1 x_1 m_2 x_2 m_3 x_3)=ShRS_L6 T0 R0 T1 R1 f1a fu G H n3 n6 x7 n7 v8 n9 (16:Int) x_0 m_1 x_1 m_2 x_2 m_3 x_3:=by kernel_rfl
def ShRS_o9e16 (x_0 x_1:List Int):St:={ tm:=[(2,.s (.ptr 0 0 64)),(23,.s (.ptr 1 0 64))],hp:=[(0,{ ty:=127,n:=64,row:=Row.t (.ints .u8 x_0) }),(1,{ ty:=127,n:=64,row:=Row.t (.ints .u8 x_1) })],nx:=2,sz:=327 }
theorem ShRS_r9 {β:Type} (fu:Nat) (G:Option St->Option β) (H:Ex->Option St->Option β) (n6:Nat) (v24:Int) (x_0:List Int) (m_1:Nat) (x_1 x_2:List Int):lpR prog (g_ShRS T0 R0 T1 R1 f1a) fu ShRS_b9 G H (ShRS_s9 n6 v24 x_0 m_1 x_1 x_2)=bif decide (v24 < (64:Int)) then bif decide ((0:Int) <= i64.wrap (v24.tdiv (8:Int)) /\ i64.wrap (v24.tdiv (8:Int)) < (↑n6:Int)) then bif decide (i64.wrap ((56:Int) - i64.wrap ((8:Int)*v24.tmod (8:Int))) < (0:Int)) then none else bif decide ((0:Int) <= v24 /\ v24 < (64:Int)) then G (some (ShRS_s9 n6 (i64.wrap (v24+(1:Int))) x_0 m_1 x_1 (x_2.set (0+v24.toNat) (u8.wrap (bShr .u64 (x_1.getD (i64.wrap (v24.tdiv (8:Int))).toNat (0:Int)) (i64.wrap ((56:Int) - i64.wrap ((8:Int)*v24.tmod (8:Int))))))))) else none else none else H (Ex.exit 16) (some (ShRS_o9e16 x_0 x_2)):=by kernel_rfl
theorem ShRS_c5e8 {β:Type} (fu:Nat) (G:Option St->Option β) (H:Ex->Option St->Option β) (n3 n6:Nat) (x7:List Int) (n7:Nat) (v8:Int) (n9:Nat) (v10:Int) (x_0:List Int) (m_1:Nat) (x_1:List Int) (m_2:Nat) (x_2:List Int) (m_3:Nat) (x_3:List Int):ShRS_k5 T0 R0 T1 R1 f1a fu G H (Ex.exit 8) (ShRS_o5e8 n3 n6 x7 n7 v8 n9 v10 x_0 m_1 x_1 m_2 x_2 m_3 x_3)=G (some (ShRS_s4 n3 n6 x7 n7 v8 n9 (i64.wrap (v10+(1:Int))) x_0 m_1 x_1 m_2 x_2 m_3 x_3)):=by kernel_rfl
def ShRS_o6e10 (n3 n6:Nat) (x7:List Int) (n7:Nat) (v8:Int) (n9:Nat) (x_0:List Int) (m_1:Nat) (x_1:List Int) (m_2:Nat) (x_2:List Int) (m_3:Nat) (x_3:List Int):St:={ tm:=[(2,.s (.ptr 0 0 64)),(3,.s (.own 1 n3 1)),(6,.s (.own 2 n6 1)),(7,.s (.dat (.ints .u64 x7) n7 1)),(8,.int .i64 v8),(9,.s (.own 3 n9 1))],hp:=[(0,{ ty:=127,n:=64,row:=Row.t (.ints .u8 x_0) }),(1,{ ty:=5,n:=m_1,row:=Row.t (.ints .u8 x_1) }),(2,{ ty:=25,n:=m_2,row:=Row.t (.ints .u64 x_2) }),(3,{ ty:=25,n:=m_3,row:=Row.t (.ints .u64 x_3) })],nx:=4,sz:=327 }
theorem ShRS_r6 {β:Type} (fu:Nat) (G:Option St->Option β) (H:Ex->Option St->Option β) (n3 n6:Nat) (x7:List Int) (n7:Nat) (v8:Int) (n9:Nat) (v12:Int) (x_0:List Int) (m_1:Nat) (x_1:List Int) (m_2:Nat) (x_2:List Int) (m_3:Nat) (x_3:List Int):lpR prog (g_ShRS T0 R0 T1 R1 f1a) fu ShRS_b6 G H (ShRS_s6 n3 n6 x7 n7 v8 n9 v12 x_0 m_1 x_1 m_2 x_2 m_3 x_3)=bif decide (v12 < (80:Int)) then bif decide ((0:Int) <= i64.wrap (v12 - (15:Int)) /\ i64.wrap (v12 - (15:Int)) < (↑n9:Int)) then (R1 [.int .u64 (x_3.getD (i64.wrap (v12 - (15:Int))).toNat (0:Int)),.int .i64 (1:Int)]).bind fun t=>bif decide ((0:Int) <= i64.wrap (v12 - (15:Int)) /\ i64.wrap (v12 - (15:Int)) < (↑n9:Int)) then (R1 [.int .u64 (x_3.getD (i64.wrap (v12 - (15:Int))).toNat (0:Int)),.int .i64 (8:Int)]).bind fun t_1=>bif decide ((0:Int) <= i64.wrap (v12 - (15:Int)) /\ i64.wrap (v12 - (15:Int)) < (↑n9:Int)) then bif decide ((0:Int) <= i64.wrap (v12 - (2:Int)) /\ i64.wrap (v12 - (2:Int)) < (↑n9:Int)) then (R1 [.int .u64 (x_3.getD (i64.wrap (v12 - (2:Int))).toNat (0:Int)),.int .i64 (19:Int)]).bind fun t_2=>bif decide ((0:Int) <= i64.wrap (v12 - (2:Int)) /\ i64.wrap (v12 - (2:Int)) < (↑n9:Int)) then (R1 [.int .u64 (x_3.getD (i64.wrap (v12 - (2:Int))).toNat (0:Int)),.int .i64 (61:Int)]).bind fun t_3=>bif decide ((0:Int) <= i64.wrap (v12 - (2:Int)) /\ i64.wrap (v12 - (2:Int)) < (↑n9:Int)) then bif decide ((0:Int) <= i64.wrap (v12 - (16:Int)) /\ i64.wrap (v12 - (16:Int)) < (↑n9:Int)) then bif decide ((0:Int) <= i64.wrap (v12 - (7:Int)) /\ i64.wrap (v12 - (7:Int)) < (↑n9:Int)) then bif decide ((0:Int) <= v12 /\ v12 < (↑n9:Int)) then G (some (ShRS_s6 n3 n6 x7 n7 v8 n9 (i64.wrap (v12+(1:Int))) x_0 m_1 x_1 m_2 x_2 m_3 (x_3.set v12.toNat (u64.wrap (u64.wrap (u64.wrap (x_3.getD (i64.wrap (v12 - (16:Int))).toNat (0:Int)+bXor .u64 (bXor .u64 (f1a t) (f1a t_1)) (bShr .u64 (x_3.getD (i64.wrap (v12 - (15:Int))).toNat (0:Int)) (7:Int)))+x_3.getD (i64.wrap (v12 - (7:Int))).toNat (0:Int))+bXor .u64 (bXor .u64 (f1a t_2) (f1a t_3)) (bShr .u64 (x_3.getD (i64.wrap (v12 - (2:Int))).toNat (0:Int)) (6:Int))))))) else none else none else none else none else none else none else none else none else none else H (Ex.exit 10) (some (ShRS_o6e10 n3 n6 x7 n7 v8 n9 x_0 m_1 x_1 m_2 x_2 m_3 x_3)):=by kernel_rfl
theorem ShRS_c9e16 (fu:Nat) (x_0 x_1:List Int):ShRS_k9 T0 R0 T1 R1 f1a fu  (Ex.exit 16) (ShRS_o9e16 x_0 x_1)=some (AV.agg (.ints .u8 x_1) 64):=by kernel_rfl
def ShRS_s7 (n3 n6:Nat) (x7:List Int) (n7:Nat) (v8:Int) (n9:Nat) (x15:List Int) (n15:Nat) (v16:Int) (x_0:List Int) (m_1:Nat) (x_1:List Int) (m_2:Nat) (x_2:List Int) (m_3:Nat) (x_3:List Int):St:={ tm:=[(2,.s (.ptr 0 0 64)),(3,.s (.own 1 n3 1)),(6,.s (.own 2 n6 1)),(7,.s (.dat (.ints .u64 x7) n7 1)),(8,.int .i64 v8),(9,.s (.own 3 n9 1)),(15,.s (.dat (.ints .u64 x15) n15 1)),(16,.int .i64 v16)],hp:=[(0,{ ty:=127,n:=64,row:=Row.t (.ints .u8 x_0) }),(1,{ ty:=5,n:=m_1,row:=Row.t (.ints .u8 x_1) }),(2,{ ty:=25,n:=m_2,row:=Row.t (.ints .u64 x_2) }),(3,{ ty:=25,n:=m_3,row:=Row.t (.ints .u64 x_3) })],nx:=4,sz:=327 }
def ShRS_b7:Code:=bodyL (codeAt [1,1,1,1,1,1,1,1,0,1,2,6,1,0,2,1,1,1,1,0,1,2] (codeF fF108))
def ShRS_k7 {β:Type} (fu:Nat) (G:Option St->Option β) (H:Ex->Option St->Option β):=kAt prog (g_ShRS T0 R0 T1 R1 f1a) fu [1,0,2,1,1,1,1,0,1,2] ShRS_b3 (kRound (g_ShRS T0 R0 T1 R1 f1a) ShRS_b3 G H)
abbrev ShRS_L7 {β:Type} (fu:Nat) (G:Option St->Option β) (H:Ex->Option St->Option β) (n3 n6:Nat) (x7:List Int) (n7:Nat) (v8:Int) (n9:Nat) (x15:List Int) (n15:Nat) (v16:Int) (x_0:List Int) (m_1:Nat) (x_1:List Int) (m_2:Nat) (x_2:List Int) (m_3:Nat) (x_3:List Int):=lpA prog (g_ShRS T0 R0 T1 R1 f1a) fu ShRS_b7 (ShRS_k7 T0 R0 T1 R1 f1a fu G H) fu (some (ShRS_s7 n3 n6 x7 n7 v8 n9 x15 n15 v16 x_0 m_1 x_1 m_2 x_2 m_3 x_3))
theorem ShRS_c6e10 {β:Type} (fu:Nat) (G:Option St->Option β) (H:Ex->Option St->Option β) (n3 n6:Nat) (x7:List Int) (n7:Nat) (v8:Int) (n9:Nat) (x_0:List Int) (m_1:Nat) (x_1:List Int) (m_2:Nat) (x_2:List Int) (m_3:Nat) (x_3:List Int):ShRS_k6 T0 R0 T1 R1 f1a fu G H (Ex.exit 10) (ShRS_o6e10 n3 n6 x7 n7 v8 n9 x_0 m_1 x_1 m_2 x_2 m_3 x_3)=bif decide ((0:Int) <= (0:Int) /\ (0:Int) < (↑n6:Int)) then bif decide ((0:Int) <= (1:Int) /\ (1:Int) < (↑n6:Int)) then bif decide ((0:Int) <= (2:Int) /\ (2:Int) < (↑n6:Int)) then bif decide ((0:Int) <= (3:Int) /\ (3:Int) < (↑n6:Int)) then bif decide ((0:Int) <= (4:Int) /\ (4:Int) < (↑n6:Int)) then bif decide ((0:Int) <= (5:Int) /\ (5:Int) < (↑n6:Int)) then bif decide ((0:Int) <= (6:Int) /\ (6:Int) < (↑n6:Int)) then bif decide ((0:Int) <= (7:Int) /\ (7:Int) < (↑n6:Int)) then ShRS_L7 T0 R0 T1 R1 f1a fu G H n3 n6 x7 n7 v8 n9 ([x_2.getD 0 (0:Int)]++([x_2.getD 1 (0:Int)]++([x_2.getD 2 (0:Int)]++([x_2.getD 3 (0:Int)]++([x_2.getD 4 (0:Int)]++([x_2.getD 5 (0:Int)]++([x_2.getD 6 (0:Int)]++[x_2.getD 7 (0:Int)]))))))) 8 (0:Int) x_0 m_1 x_1 m_2 x_2 m_3 x_3 else none else none else none else none else none else none else none else none:=by kernel_rfl
def ShRS_o7e12 (n3 n6:Nat) (x7:List Int) (n7:Nat) (v8:Int) (x15:List Int) (n15:Nat) (x_0:List Int) (m_1:Nat) (x_1:List Int) (m_2:Nat) (x_2:List Int):St:={ tm:=[(2,.s (.ptr 0 0 64)),(3,.s (.own 1 n3 1)),(6,.s (.own 2 n6 1)),(7,.s (.dat (.ints .u64 x7) n7 1)),(8,.int .i64 v8),(15,.s (.dat (.ints .u64 x15) n15 1))],hp:=[(0,{ ty:=127,n:=64,row:=Row.t (.ints .u8 x_0) }),(1,{ ty:=5,n:=m_1,row:=Row.t (.ints .u8 x_1) }),(2,{ ty:=25,n:=m_2,row:=Row.t (.ints .u64 x_2) })],nx:=3,sz:=327 }
theorem ShRS_r7 {β:Type} (fu:Nat) (G:Option St->Option β) (H:Ex->Option St->Option β) (n3 n6:Nat) (x7:List Int) (n7:Nat) (v8:Int) (n9:Nat) (x15:List Int) (n15:Nat) (v16:Int) (x_0:List Int) (m_1:Nat) (x_1:List Int) (m_2:Nat) (x_2:List Int) (m_3:Nat) (x_3:List Int):lpR prog (g_ShRS T0 R0 T1 R1 f1a) fu ShRS_b7 G H (ShRS_s7 n3 n6 x7 n7 v8 n9 x15 n15 v16 x_0 m_1 x_1 m_2 x_2 m_3 x_3)=bif decide (v16 < (80:Int)) then bif decide ((0:Int) <= (4:Int) /\ (4:Int) < (↑n15:Int)) then (R1 [.int .u64 (x15.getD 4 (0:Int)),.int .i64 (14:Int)]).bind fun t=>bif decide ((0:Int) <= (4:Int) /\ (4:Int) < (↑n15:Int)) then (R1 [.int .u64 (x15.getD 4 (0:Int)),.int .i64 (18:Int)]).bind fun t_1=>bif decide ((0:Int) <= (4:Int) /\ (4:Int) < (↑n15:Int)) then (R1 [.int .u64 (x15.getD 4 (0:Int)),.int .i64 (41:Int)]).bind fun t_2=>bif decide ((0:Int) <= (4:Int) /\ (4:Int) < (↑n15:Int)) then bif decide ((0:Int) <= (5:Int) /\ (5:Int) < (↑n15:Int)) then bif decide ((0:Int) <= (4:Int) /\ (4:Int) < (↑n15:Int)) then bif decide ((0:Int) <= (6:Int) /\ (6:Int) < (↑n15:Int)) then bif decide ((0:Int) <= (7:Int) /\ (7:Int) < (↑n15:Int)) then bif decide ((0:Int) <= v16 /\ v16 < (↑n7:Int)) then bif decide ((0:Int) <= v16 /\ v16 < (↑n9:Int)) then bif decide ((0:Int) <= (0:Int) /\ (0:Int) < (↑n15:Int)) then (R1 [.int .u64 (x15.getD 0 (0:Int)),.int .i64 (28:Int)]).bind fun t_3=>bif decide ((0:Int) <= (0:Int) /\ (0:Int) < (↑n15:Int)) then (R1 [.int .u64 (x15.getD 0 (0:Int)),.int .i64 (34:Int)]).bind fun t_4=>bif decide ((0:Int) <= (0:Int) /\ (0:Int) < (↑n15:Int)) then (R1 [.int .u64 (x15.getD 0 (0:Int)),.int .i64 (39:Int)]).bind fun t_5=>bif decide ((0:Int) <= (0:Int) /\ (0:Int) < (↑n15:Int)) then bif decide ((0:Int) <= (1:Int) /\ (1:Int) < (↑n15:Int)) then bif decide ((0:Int) <= (0:Int) /\ (0:Int) < (↑n15:Int)) then bif decide ((0:Int) <= (2:Int) /\ (2:Int) < (↑n15:Int)) then bif decide ((0:Int) <= (1:Int) /\ (1:Int) < (↑n15:Int)) then bif decide ((0:Int) <= (2:Int) /\ (2:Int) < (↑n15:Int)) then bif decide ((0:Int) <= (0:Int) /\ (0:Int) < (↑n15:Int)) then bif decide ((0:Int) <= (1:Int) /\ (1:Int) < (↑n15:Int)) then bif decide ((0:Int) <= (2:Int) /\ (2:Int) < (↑n15:Int)) then bif decide ((0:Int) <= (3:Int) /\ (3:Int) < (↑n15:Int)) then bif decide ((0:Int) <= (4:Int) /\ (4:Int) < (↑n15:Int)) then bif decide ((0:Int) <= (5:Int) /\ (5:Int) < (↑n15:Int)) then bif decide ((0:Int) <= (6:Int) /\ (6:Int) < (↑n15:Int)) then G (some (ShRS_s7 n3 n6 x7 n7 v8 n9 ([u64.wrap (u64.wrap (u64.wrap (u64.wrap (u64.wrap (x15.getD 7 (0:Int)+bXor .u64 (bXor .u64 (f1a t) (f1a t_1)) (f1a t_2))+bXor .u64 (bAnd .u64 (x15.getD 4 (0:Int)) (x15.getD 5 (0:Int))) (bAnd .u64 (u64.wrap ((18446744073709551615:Int) - x15.getD 4 (0:Int))) (x15.getD 6 (0:Int))))+x7.getD v16.toNat (0:Int))+x_3.getD v16.toNat (0:Int))+u64.wrap (bXor .u64 (bXor .u64 (f1a t_3) (f1a t_4)) (f1a t_5)+bXor .u64 (bXor .u64 (bAnd .u64 (x15.getD 0 (0:Int)) (x15.getD 1 (0:Int))) (bAnd .u64 (x15.getD 0 (0:Int)) (x15.getD 2 (0:Int)))) (bAnd .u64 (x15.getD 1 (0:Int)) (x15.getD 2 (0:Int)))))]++([x15.getD 0 (0:Int)]++([x15.getD 1 (0:Int)]++([x15.getD 2 (0:Int)]++([u64.wrap (x15.getD 3 (0:Int)+u64.wrap (u64.wrap (u64.wrap (u64.wrap (x15.getD 7 (0:Int)+bXor .u64 (bXor .u64 (f1a t) (f1a t_1)) (f1a t_2))+bXor .u64 (bAnd .u64 (x15.getD 4 (0:Int)) (x15.getD 5 (0:Int))) (bAnd .u64 (u64.wrap ((18446744073709551615:Int) - x15.getD 4 (0:Int))) (x15.getD 6 (0:Int))))+x7.getD v16.toNat (0:Int))+x_3.getD v16.toNat (0:Int)))]++([x15.getD 4 (0:Int)]++([x15.getD 5 (0:Int)]++[x15.getD 6 (0:Int)]))))))) 8 (i64.wrap (v16+(1:Int))) x_0 m_1 x_1 m_2 x_2 m_3 x_3)) else none else none else none else none else none else none else none else none else none else none else none else none else none else none else none else none else none else none else none else none else none else none else none else none else none else none else H (Ex.exit 12) (some (ShRS_o7e12 n3 n6 x7 n7 v8 x15 n15 x_0 m_1 x_1 m_2 x_2)):=by kernel_rfl
def ShRS_s8 (n3 n6:Nat) (x7:List Int) (n7:Nat) (v8:Int) (x15:List Int) (n15:Nat) (v22:Int) (x_0:List Int) (m_1:Nat) (x_1:List Int) (m_2:Nat) (x_2:List Int):St:={ tm:=[(2,.s (.ptr 0 0 64)),(3,.s (.own 1 n3 1)),(6,.s (.own 2 n6 1)),(7,.s (.dat (.ints .u64 x7) n7 1)),(8,.int .i64 v8),(15,.s (.dat (.ints .u64 x15) n15 1)),(22,.int .i64 v22)],hp:=[(0,{ ty:=127,n:=64,row:=Row.t (.ints .u8 x_0) }),(1,{ ty:=5,n:=m_1,row:=Row.t (.ints .u8 x_1) }),(2,{ ty:=25,n:=m_2,row:=Row.t (.ints .u64 x_2) })],nx:=3,sz:=327 }
def ShRS_b8:Code:=bodyL (codeAt [1,1,1,1,1,1,1,1,0,1,2,6,1,0,2,1,1,1,1,1,1,2] (codeF fF108))
def ShRS_k8 {β:Type} (fu:Nat) (G:Option St->Option β) (H:Ex->Option St->Option β):=kAt prog (g_ShRS T0 R0 T1 R1 f1a) fu [1,0,2,1,1,1,1,1,1,2] ShRS_b3 (kRound (g_ShRS T0 R0 T1 R1 f1a) ShRS_b3 G H)
abbrev ShRS_L8 {β:Type} (fu:Nat) (G:Option St->Option β) (H:Ex->Option St->Option β) (n3 n6:Nat) (x7:List Int) (n7:Nat) (v8:Int) (x15:List Int) (n15:Nat) (v22:Int) (x_0:List Int) (m_1:Nat) (x_1:List Int) (m_2:Nat) (x_2:List Int):=lpA prog (g_ShRS T0 R0 T1 R1 f1a) fu ShRS_b8 (ShRS_k8 T0 R0 T1 R1 f1a fu G H) fu (some (ShRS_s8 n3 n6 x7 n7 v8 x15 n15 v22 x_0 m_1 x_1 m_2 x_2))
theorem ShRS_c7e12 {β:Type} (fu:Nat) (G:Option St->Option β) (H:Ex->Option St->Option β) (n3 n6:Nat) (x7:List Int) (n7:Nat) (v8:Int) (x15:List Int) (n15:Nat) (x_0:List Int) (m_1:Nat) (x_1:List Int) (m_2:Nat) (x_2:List Int):ShRS_k7 T0 R0 T1 R1 f1a fu G H (Ex.exit 12) (ShRS_o7e12 n3 n6 x7 n7 v8 x15 n15 x_0 m_1 x_1 m_2 x_2)=ShRS_L8 T0 R0 T1 R1 f1a fu G H n3 n6 x7 n7 v8 x15 n15 (0:Int) x_0 m_1 x_1 m_2 x_2:=by kernel_rfl
def ShRS_o8e14 (n3 n6:Nat) (x7:List Int) (n7:Nat) (v8:Int) (x_0:List Int) (m_1:Nat) (x_1:List Int) (m_2:Nat) (x_2:List Int):St:={ tm:=[(2,.s (.ptr 0 0 64)),(3,.s (.own 1 n3 1)),(6,.s (.own 2 n6 1)),(7,.s (.dat (.ints .u64 x7) n7 1)),(8,.int .i64 v8)],hp:=[(0,{ ty:=127,n:=64,row:=Row.t (.ints .u8 x_0) }),(1,{ ty:=5,n:=m_1,row:=Row.t (.ints .u8 x_1) }),(2,{ ty:=25,n:=m_2,row:=Row.t (.ints .u64 x_2) })],nx:=3,sz:=327 }
theorem ShRS_r8 {β:Type} (fu:Nat) (G:Option St->Option β) (H:Ex->Option St->Option β) (n3 n6:Nat) (x7:List Int) (n7:Nat) (v8:Int) (x15:List Int) (n15:Nat) (v22:Int) (x_0:List Int) (m_1:Nat) (x_1:List Int) (m_2:Nat) (x_2:List Int):lpR prog (g_ShRS T0 R0 T1 R1 f1a) fu ShRS_b8 G H (ShRS_s8 n3 n6 x7 n7 v8 x15 n15 v22 x_0 m_1 x_1 m_2 x_2)=bif decide (v22 < (8:Int)) then bif decide ((0:Int) <= v22 /\ v22 < (↑n6:Int)) then bif decide ((0:Int) <= v22 /\ v22 < (↑n15:Int)) then bif decide ((0:Int) <= v22 /\ v22 < (↑n6:Int)) then G (some (ShRS_s8 n3 n6 x7 n7 v8 x15 n15 (i64.wrap (v22+(1:Int))) x_0 m_1 x_1 m_2 (x_2.set v22.toNat (u64.wrap (x_2.getD v22.toNat (0:Int)+x15.getD v22.toNat (0:Int)))))) else none else none else none else H (Ex.exit 14) (some (ShRS_o8e14 n3 n6 x7 n7 v8 x_0 m_1 x_1 m_2 x_2)):=by kernel_rfl
theorem ShRS_c8e14 {β:Type} (fu:Nat) (G:Option St->Option β) (H:Ex->Option St->Option β) (n3 n6:Nat) (x7:List Int) (n7:Nat) (v8:Int) (x_0:List Int) (m_1:Nat) (x_1:List Int) (m_2:Nat) (x_2:List Int):ShRS_k8 T0 R0 T1 R1 f1a fu G H (Ex.exit 14) (ShRS_o8e14 n3 n6 x7 n7 v8 x_0 m_1 x_1 m_2 x_2)=G (some (ShRS_s3 n3 n6 x7 n7 (i64.wrap (v8+(128:Int))) x_0 m_1 x_1 m_2 x_2)):=by kernel_rfl
end
abbrev gI_ShTX:Cg:=g_ShTX 
theorem gok_ShTX:CfOk prog gI_ShTX.c:=⟨gam_nil,fun _ _ h=>by cases h⟩
abbrev gI_ShCT:Cg:=g_ShCT 
theorem gok_ShCT:CfOk prog gI_ShCT.c:=⟨gam_nil,fun _ _ h=>by cases h⟩
theorem cntL_snoc:∀ (l:List Str) (p:Str),cntL (l++[p])=cntL l++(pre2 p.length++p):=by
 intro l
 induction l with
 | nil=>intro p; simp [cntL]
 | cons a r ih=>intro p; simp only [List.cons_append,cntL,ih,List.append_assoc]
theorem cntL_app:∀ (l m:List Str),cntL (l++m)=cntL l++cntL m:=by
 intro l
 induction l with
 | nil=>intro m; rfl
 | cons a r ih=>intro m; simp only [List.cons_append,cntL,ih,List.append_assoc]
theorem take_succ_strs (ss:List Str) (i:Nat) (h:i < ss.length):ss.take (i+1)=ss.take i++[ss.getD i []]:=by
 rw [List.take_add_one,List.getElem?_eq_getElem h,List.getD_eq_getElem?_getD,List.getElem?_eq_getElem h]; rfl
theorem ct_loop (ss:List Str) (h2:ss.length <= 1048576) (h3:(cntL ss).length <= 1099511627776) (fu:Nat):∀ (d n i:Nat),i+d=ss.length->d < n ->
  lpA prog gI_ShCT fu ShCT_b1 (ShCT_k1 fu) n (some (ShCT_s1 (cntL (ss.take i)) ss ss.length (ss.length:Int) (i:Int)))=some (.str (cntL ss)):=by
 intro d
 induction d with
 | zero=>
  intro n i hi hn
  obtain ⟨n,rfl⟩:=Nat.exists_eq_succ_of_ne_zero (by omega:n ≠ 0)
  have e:i=ss.length:=by omega
  rw [lpA_succ,ShCT_r1,decide_eq_false (by omega),cond_false,kOut_some,ShCT_c1e0,e,List.take_length]
 | succ d ih=>
  intro n i hi hn
  obtain ⟨n,rfl⟩:=Nat.exists_eq_succ_of_ne_zero (by omega:n ≠ 0)
  have h:=ih n (i+1) (by omega) (by omega)
  have e:=take_succ_strs ss i (by omega)
  have hl:(cntL (ss.take (i+1))).length <= (cntL ss).length:=by
   have:=cntL_app (ss.take (i+1)) (ss.drop (i+1))
   rw [List.take_append_drop] at this
   rw [this,List.length_append]; omega
  rw [e,cntL_snoc] at h hl
  have hp:(ss.getD i []).length+2 <= 1099511627776:=by
   rw [List.length_append,List.length_append] at hl
   have:(pre2 (ss.getD i []).length).length=2:=rfl
   omega
  have hpre:List.map b8 ([u8.wrap (bShr i64 (((ss.getD i []).length:Nat):Int) (8:Int))]++[u8.wrap (((ss.getD i []).length:Nat):Int)])=pre2 (ss.getD i []).length:=by
   rw [show (8:Int)=((8:Nat):Int) from rfl,shrI64 _ _ (by decide) (by omega),wu8n,wu8n]; rfl
  rw [lpA_succ,ShCT_r1,decide_eq_true (by omega),cond_true,decide_eq_true (by omega),cond_true,Int.toNat_natCast,decide_eq_true (by omega),cond_true,hpre,decide_eq_true (by rw [List.length_append] at hl; omega),cond_true,wi64 (by omega) (by omega)]
  exact h
theorem ok_Counted:CallOk prog nF63 sCounted:=by
 refine afunc_okE (g:=gI_ShCT) (fu:=fun args=>match args with | [.c (.s (.dat (.strs ss) n 1))]=>ss.length+1 | _=>0) mixed gok_ShCT hF63 (by kernel_rfl) ?_
 intro args t ht
 unfold sCounted at ht
 simp only at ht
 split at ht
 ·rename_i ss n
  obtain ⟨h1,h2⟩:=ctrueS ht
  subst h2
  simp only [Bool.and_eq_true,Nat.ble_eq] at h1
  have e:=Nat.eq_of_beq_eq_true h1.1.1
  subst e
  exact (ShCT_ev ..).trans (ct_loop ss h1.1.2 h1.2 _ ss.length _ 0 (by omega) (Nat.lt_succ_self _))
 ·cases ht
theorem tx_set (s:List Int) (hs:s.length=64) (i:Nat) (hi:i < 64):(s.take i++List.replicate (64 - i) 0).set i (s.getD i 0)=s.take (i+1)++List.replicate (64 - (i+1)) 0:=by
 have e:s.take (i+1)=s.take i++[s.getD i 0]:=by
  rw [List.take_add_one,List.getElem?_eq_getElem (by omega),List.getD_eq_getElem?_getD,List.getElem?_eq_getElem (by omega)]; rfl
 have hl:(s.take i).length=i:=by rw [List.length_take]; omega
 rw [e,List.set_append_right _ _ (by rw [hl]; omega),hl,Nat.sub_self,show 64 - i=64 - (i+1)+1 by omega,List.replicate_succ,List.set_cons_zero,List.append_assoc]; rfl
theorem tx_loop (s:List Int) (hs:s.length=64) (fu:Nat):∀ (d n i:Nat),i+d=64->d < n ->
  lpA prog gI_ShTX fu ShTX_b1 (ShTX_k1 fu) n (some (ShTX_s1 64 (i:Int) s 64 (s.take i++List.replicate (64 - i) 0)))=some (.str (s.map b8)):=by
 intro d
 induction d with
 | zero=>
  intro n i hi hn
  obtain ⟨n,rfl⟩:=Nat.exists_eq_succ_of_ne_zero (by omega:n ≠ 0)
  have:i=64:=by omega
  subst this
  rw [lpA_succ,ShTX_r1,decide_eq_false (by decide),cond_false,kOut_some,ShTX_c1e0,Nat.sub_self,List.replicate_zero,List.append_nil,List.take_of_length_le (by omega)]
 | succ d ih=>
  intro n i hi hn
  obtain ⟨n,rfl⟩:=Nat.exists_eq_succ_of_ne_zero (by omega:n ≠ 0)
  have h:=ih n (i+1) (by omega) (by omega)
  rw [lpA_succ,ShTX_r1,decide_eq_true (by omega),cond_true,decide_eq_true (by omega),cond_true,decide_eq_true (by omega),cond_true,Int.toNat_natCast,Nat.zero_add,tx_set s hs i (by omega),wi64 (by omega) (by omega)]
  exact h
theorem ok_Text:CallOk prog nF107 sText:=by
 refine afunc_okE (g:=gI_ShTX) (fu:=fun _=>65) mixed gok_ShTX hF107 (by kernel_rfl) ?_
 intro args t ht
 unfold sText at ht
 simp only at ht
 split at ht
 ·rename_i s
  obtain ⟨h1,h2⟩:=ctrueS ht
  subst h2
  have h1:=Nat.eq_of_beq_eq_true h1
  exact (ShTX_ev ..).trans (tx_loop s h1 65 64 65 0 (by omega) (by decide))
 ·cases ht
abbrev gI_ShSH:Cg:=g_ShSH (List Nat) rSum (fun t=>up t)
theorem gok_ShSH:CfOk prog gI_ShSH.c:=⟨gam_cons ok_Sum <| gam_nil,fun _ _ h=>by cases h⟩
def shortN (k:Int):Nat:=if 64 < k then 64 else k.toNat
def shortS (k:Int) (t:Str):Str:=((up (sumB t)).take (shortN k)).map b8
def sShort:Summ where
 T:=Str
 run:=fun
  | [.c (.s (.pl (.int .i64 k))),.c (.s (.dat (.strs ss) n 1))]=>cond (okSum ss n) (some (shortS k (Lib.join ss []))) none
  | _=>none
 enc:=fun t=>.str t
def rShort:List AV->Option Str:=sShort.run
theorem run_Sum {ss:List Str} {n:Nat} (h:okSum ss n=true):rSum [.s (.dat (.strs ss) n 1)]=some (sumB (Lib.join ss [])):=by
 show cond (okSum ss n) (some (sumB (Lib.join ss []))) none=_
 rw [h]; rfl
theorem ok_Short:CallOk prog nF163 sShort:=by
 refine afunc_okE (g:=gI_ShSH) (fu:=fun _=>0) mixed gok_ShSH hF163 (by kernel_rfl) ?_
 intro args t ht
 unfold sShort at ht
 simp only at ht
 split at ht
 ·rename_i k ss n
  obtain ⟨h1,h2⟩:=ctrueS ht
  subst h2
  refine (ShSH_ev ..).trans ?_
  rw [run_Sum h1,Option.bind_some]
  have e:((if (64:Int) < if (0:Int) > k then (0:Int) else k then (64:Int) else if (0:Int) > k then (0:Int) else k) - (0:Int)).toNat=shortN k:=by
   unfold shortN
   split <;> split <;> first | omega | (split <;> omega)
  have g:decide ((0:Int) <= (0:Int) /\ ((0:Int) <= if (64:Int) < if (0:Int) > k then (0:Int) else k then (64:Int) else if (0:Int) > k then (0:Int) else k) /\
    (if (64:Int) < if (0:Int) > k then (0:Int) else k then (64:Int) else if (0:Int) > k then (0:Int) else k) <= (64:Int))=true:=by
   refine decide_eq_true ⟨Int.le_refl _,?_,?_⟩
   ·split <;> split <;> omega
   ·split <;> split <;> omega
  rw [g,cond_true,e,List.drop_zero]; rfl
 ·cases ht
abbrev gI_ShRS:Cg:=g_ShRS (PUnit) rK (Nat) rTurn (fun t=>↑t)
theorem gok_ShRS:CfOk prog gI_ShRS.c:=⟨gam_cons ok_K <| gam_cons ok_Rotr <| gam_nil,fun _ _ h=>by cases h⟩
def sRefSum:Summ where
 T:=List Nat
 run:=fun
  | [.c (.s (.pl (.str s)))]=>cond (Nat.ble s.length 1099511627000) (some (sumB s)) none
  | _=>none
 enc:=fun t=>.agg (.ints .u8 (up t)) 64
def rRefSum:List AV->Option (List Nat):=sRefSum.run
theorem dT {p:Prop} [Decidable p] (h:p):decide p=true:=decide_eq_true h
theorem repeatL0 (n:Nat):Lib.repeatL ([0]:Str) n=List.replicate n 0:=by
 induction n with
 | zero=>rfl
 | succ n ih=>rw [Lib.repeatL,ih]; rfl
theorem rs_l1 (t:Str) (hl:t.length <= 1099511627000) (v:Int) (z:List Int) (fu:Nat):∀ (d n j:Nat),j+d=(247 - t.length%128)%128->d < n ->
  lpA prog gI_ShRS fu ShRS_b1 (ShRS_k1 _ rK _ rTurn (fun t=>(t:Int)) fu) n (some (ShRS_s1 (t.length+1+j) v z ((t.length+1+j)*1) ((t++([128]++List.replicate j 0)).map ofB))) =
   ShRS_L2 _ rK _ rTurn (fun t=>(t:Int)) fu (padN t).length v 7 z ((padN t).length*1) ((padN t).map ofB):=by
 intro d
 induction d with
 | zero=>
  intro n j hj hn
  obtain ⟨n,rfl⟩:=Nat.exists_eq_succ_of_ne_zero (by omega:n ≠ 0)
  have e:((t.length+1+j:Nat):Int).tmod 128=120:=by rw [Int.tmod_eq_emod_of_nonneg (by omega)]; omega
  rw [lpA_succ,ShRS_r1,decide_eq_true e,Bool.not_true,cond_false,kOut_some,ShRS_c1e0,padN_len,show t.length+1+j=t.length+1+(247 - t.length%128)%128 by omega,padN,repeatL0,<-hj]; rfl
 | succ d ih=>
  intro n j hj hn
  obtain ⟨n,rfl⟩:=Nat.exists_eq_succ_of_ne_zero (by omega:n ≠ 0)
  have h:=ih n (j+1) (by omega) (by omega)
  have e:¬ ((t.length+1+j:Nat):Int).tmod 128=120:=by rw [Int.tmod_eq_emod_of_nonneg (by omega)]; omega
  rw [lpA_succ,ShRS_r1,decide_eq_false e,Bool.not_false,cond_true,decide_eq_true (by omega),cond_true]
  rw [List.replicate_succ',<-List.append_assoc [128],<-List.append_assoc t,List.map_append (l₁:=t++_)] at h
  exact h
theorem ofB_b8 (n:Nat):ofB (b8 ((n%256:Nat):Int))=((n%256:Nat):Int):=by
 unfold ofB
 rw [b8,Int.toNat_natCast]
 simp
theorem rs_l2 (P:Str) (hP:P.length+8 <= 1099511627776) (m:Nat) (hm:m < 18446744073709551616) (z:List Int) (fu:Nat):∀ (d n k:Nat),k+d=8->d < n ->
  lpA prog gI_ShRS fu ShRS_b2 (ShRS_k2 _ rK _ rTurn (fun t=>(t:Int)) fu) n (some (ShRS_s2 (P.length+k) (m:Int) (7 - (k:Int)) z ((P.length+k)*1) ((P++be m k).map ofB))) =
   ShRS_L3 _ rK _ rTurn (fun t=>(t:Int)) fu (P.length+8) 8 (up kN) 80 0 z ((P.length+8)*1) ((P++be m 8).map ofB) 8 (up hN):=by
 intro d
 induction d with
 | zero=>
  intro n k hk hn
  obtain ⟨n,rfl⟩:=Nat.exists_eq_succ_of_ne_zero (by omega:n ≠ 0)
  have:k=8:=by omega
  subst this
  rw [lpA_succ,ShRS_r2,decide_eq_false (by decide),cond_false,kOut_some,ShRS_c2e2,show rK []=some () from rfl,Option.bind_some]; rfl
 | succ d ih=>
  intro n k hk hn
  obtain ⟨n,rfl⟩:=Nat.exists_eq_succ_of_ne_zero (by omega:n ≠ 0)
  have h:=ih n (k+1) (by omega) (by omega)
  have hl:=be_len m k
  have hix:i64.wrap ((8:Int)*(7 - (k:Int)))=((8*(7 - k):Nat):Int):=by rw [wi64 (by omega) (by omega)]; omega
  rw [lpA_succ,ShRS_r2,decide_eq_true (by omega),cond_true,hix,decide_eq_false (by omega),cond_false,decide_eq_true (by omega),cond_true,shr64 _ _ (by omega),wu8n,wi64 (by omega) (by omega)]
  rw [show (7:Int) - (k:Int) - 1=7 - ((k+1:Nat):Int) by omega]
  rw [be,<-List.append_assoc,List.map_append (l₁:=P++_),List.map_singleton,ofB_b8] at h
  exact h
theorem wd_step' (s:Str) (i k:Nat) (hk:k < 8):u64.wrap (u64.wrap (((wd s i k:Nat):Int)*256)+u64.wrap (((s.getD (8*i+k) 0).toNat:Nat):Int))=((wd s i (k+1):Nat):Int):=by
 have hb:=(s.getD (8*i+k) 0).toNat_lt
 have h1:=wd_lt s i k
 have h2:(256:Nat) ^ k <= 256 ^ 7:=Nat.pow_le_pow_right (by decide) (by omega)
 rw [show ((wd s i k:Nat):Int)*256=((wd s i k*256:Nat):Int) by omega,wu64n,wu64n,Nat.mod_eq_of_lt (by omega),Nat.mod_eq_of_lt (by omega),<-Int.natCast_add,wu64n,Nat.mod_eq_of_lt (by omega)]; rfl
theorem rs_byte (F:Str) (a j:Nat) (hj:j < 128):(F.map ofB).getD (a+j) 0=((((F.drop a).take 128).getD j 0).toNat:Int):=by
 rw [List.getD_eq_getElem?_getD,List.getD_eq_getElem?_getD,List.getElem?_take,if_pos hj,List.getElem?_drop,List.getElem?_map]
 cases F[a+j]? <;> rfl
theorem rs_inner {β:Type} (F:Str) (a:Nat) (ha:a+128 <= F.length) (hF:F.length <= 1099511627776) (i:Nat) (hi:i < 16) (fu:Nat) (z x2:List Int) (m1 m2 m3:Nat) (G:Option St->Option β) (H:Ex->Option St->Option β):∀ (d n k:Nat),k+d=8->d < n ->
  lpA prog gI_ShRS fu ShRS_b5 (ShRS_k5 _ rK _ rTurn (fun t=>(t:Int)) fu G H) n (some (ShRS_s5 F.length 8 (up kN) 80 (a:Int) 80 (i:Int) (k:Int) z m1 (F.map ofB) m2 x2 m3 (up ((blk ((F.drop a).take 128) i).set i (wd ((F.drop a).take 128) i k))))) =
   G (some (ShRS_s4 F.length 8 (up kN) 80 (a:Int) 80 ((i+1:Nat):Int) z m1 (F.map ofB) m2 x2 m3 (up (blk ((F.drop a).take 128) (i+1))))):=by
 intro d
 induction d with
 | zero=>
  intro n k hk hn
  obtain ⟨n,rfl⟩:=Nat.exists_eq_succ_of_ne_zero (by omega:n ≠ 0)
  have:k=8:=by omega
  subst this
  rw [lpA_succ,ShRS_r5,decide_eq_false (by decide),cond_false,kOut_some,ShRS_c5e8,wi64 (by omega) (by omega),blk_end _ i (by omega)]; rfl
 | succ d ih=>
  intro n k hk hn
  obtain ⟨n,rfl⟩:=Nat.exists_eq_succ_of_ne_zero (by omega:n ≠ 0)
  have h:=ih n (k+1) (by omega) (by omega)
  have hix:i64.wrap (i64.wrap ((a:Int)+i64.wrap ((8:Int)*(i:Int)))+(k:Int))=((a+(8*i+k):Nat):Int):=by
   rw [wi64 (n:=8*(i:Int)) (by omega) (by omega),wi64 (n:=(a:Int)+8*(i:Int)) (by omega) (by omega),wi64 (by omega) (by omega)]; omega
  rw [lpA_succ,ShRS_r5,decide_eq_true (by omega),cond_true,hix,decide_eq_true (by omega),cond_true,decide_eq_true (by omega),cond_true,cond_true,Int.toNat_natCast,Int.toNat_natCast,rs_byte F a _ (by omega),up_getD,getD_set,if_pos ⟨rfl,by rw [blk_len _ _ (by omega)]; omega⟩,
   wd_step' _ i k (by omega),up_set,List.set_set,wi64 (by omega) (by omega)]
  exact h
theorem rs_outer {β:Type} (F:Str) (a:Nat) (ha:a+128 <= F.length) (hF:F.length <= 1099511627776) (fu:Nat) (hfu:8 < fu) (z x2:List Int) (m1 m2 m3:Nat) (G:Option St->Option β) (H:Ex->Option St->Option β):∀ (d n i:Nat),i+d=16->d < n ->
  lpA prog gI_ShRS fu ShRS_b4 (ShRS_k4 _ rK _ rTurn (fun t=>(t:Int)) fu G H) n (some (ShRS_s4 F.length 8 (up kN) 80 (a:Int) 80 (i:Int) z m1 (F.map ofB) m2 x2 m3 (up (blk ((F.drop a).take 128) i)))) =
   ShRS_L6 _ rK _ rTurn (fun t=>(t:Int)) fu G H F.length 8 (up kN) 80 (a:Int) 80 16 z m1 (F.map ofB) m2 x2 m3 (up (blk ((F.drop a).take 128) 16)):=by
 intro d
 induction d with
 | zero=>
  intro n i hi hn
  obtain ⟨n,rfl⟩:=Nat.exists_eq_succ_of_ne_zero (by omega:n ≠ 0)
  have:i=16:=by omega
  subst this
  rw [lpA_succ,ShRS_r4,decide_eq_false (by decide),cond_false,kOut_some,ShRS_c4e6]
 | succ d ih=>
  intro n i hi hn
  obtain ⟨n,rfl⟩:=Nat.exists_eq_succ_of_ne_zero (by omega:n ≠ 0)
  rw [lpA_succ,ShRS_r4,decide_eq_true (by omega),cond_true]
  have h:=rs_inner F a ha hF i (by omega) fu z x2 m1 m2 m3 (lpA prog gI_ShRS fu ShRS_b4 (ShRS_k4 _ rK _ rTurn (fun t=>(t:Int)) fu G H) n) (kOut (ShRS_k4 _ rK _ rTurn (fun t=>(t:Int)) fu G H)) 8 fu 0 (by omega) hfu
  rw [<-blk_begin _ i (by omega)] at h
  refine Eq.trans h ?_
  exact ih n (i+1) (by omega) (by omega)
theorem rs_sched {β:Type} (F:Str) (a:Nat) (fu:Nat) (z x2:List Int) (m1 m2 m3:Nat) (G:Option St->Option β) (H:Ex->Option St->Option β) (x0:List Nat) (hx0:okW x0) (h8:x2=up (dn x2) ):∀ (e n d:Nat),d+e=64->e < n ->
  lpA prog gI_ShRS fu ShRS_b6 (ShRS_k6 _ rK _ rTurn (fun t=>(t:Int)) fu G H) n (some (ShRS_s6 F.length 8 (up kN) 80 (a:Int) 80 ((16+d:Nat):Int) z m1 (F.map ofB) m2 x2 m3 (up (sched x0 d)))) =
   ShRS_L7 _ rK _ rTurn (fun t=>(t:Int)) fu G H F.length 8 (up kN) 80 (a:Int) 80 [x2.getD 0 0,x2.getD 1 0,x2.getD 2 0,x2.getD 3 0,x2.getD 4 0,x2.getD 5 0,x2.getD 6 0,x2.getD 7 0] 8 0 z m1 (F.map ofB) m2 x2 m3 (up (sched x0 64)):=by
 intro e
 induction e with
 | zero=>
  intro n d hd hn
  obtain ⟨n,rfl⟩:=Nat.exists_eq_succ_of_ne_zero (by omega:n ≠ 0)
  have:d=64:=by omega
  subst this
  rw [lpA_succ,ShRS_r6,decide_eq_false (by decide),cond_false,kOut_some,ShRS_c6e10]
  rfl
 | succ e ih=>
  intro n d hd hn
  obtain ⟨n,rfl⟩:=Nat.exists_eq_succ_of_ne_zero (by omega:n ≠ 0)
  have h:=ih n (d+1) (by omega) (by omega)
  have ok:=sched_ok hx0 d
  have w:∀ k:Nat,k <= 16->i64.wrap (((16+d:Nat):Int) - ((k:Nat):Int))=((16+d - k:Nat):Int):=fun k hk=>by rw [wi64 (by omega) (by omega)]; omega
  have w15:=w 15 (by omega)
  have w2:=w 2 (by omega)
  have w16:=w 16 (by omega)
  have w7:=w 7 (by omega)
  simp only [Int.cast_ofNat_Int] at w15 w2 w16 w7
  rw [lpA_succ,ShRS_r6,decide_eq_true (by omega),cond_true,w15,w2,w16,w7]
  simp (disch:=omega) only [dT,cond_true]
  simp only [Int.toNat_natCast,up_getD]
  have t1:=run_Turn _ 1 (ok (16+d - 15)) (by decide) (by decide)
  have t8:=run_Turn _ 8 (ok (16+d - 15)) (by decide) (by decide)
  have t19:=run_Turn _ 19 (ok (16+d - 2)) (by decide) (by decide)
  have t61:=run_Turn _ 61 (ok (16+d - 2)) (by decide) (by decide)
  simp only [Int.cast_ofNat_Int] at t1 t8 t19 t61
  rw [t1,Option.bind_some,t8,Option.bind_some,t19,Option.bind_some,t61,Option.bind_some]
  have a15:=ok (16+d - 15)
  have a2:=ok (16+d - 2)
  have x0':bXor .u64 (bXor .u64 ((rr ((sched x0 d).getD (16+d - 15) 0) 1:Nat):Int) ((rr ((sched x0 d).getD (16+d - 15) 0) 8:Nat):Int)) (bShr .u64 (((sched x0 d).getD (16+d - 15) 0:Nat):Int) 7)=((g0 ((sched x0 d).getD (16+d - 15) 0):Nat):Int):=by
   rw [show (7:Int)=((7:Nat):Int) from rfl,shr64 _ _ (by decide),xor64 _ _ (rr_lt _ a15) (rr_lt _ a15),xor64 _ _ (xor_lt64 (rr_lt _ a15) (rr_lt _ a15)) (div_lt64 _ a15)]; rfl
  have x1':bXor .u64 (bXor .u64 ((rr ((sched x0 d).getD (16+d - 2) 0) 19:Nat):Int) ((rr ((sched x0 d).getD (16+d - 2) 0) 61:Nat):Int)) (bShr .u64 (((sched x0 d).getD (16+d - 2) 0:Nat):Int) 6)=((g1 ((sched x0 d).getD (16+d - 2) 0):Nat):Int):=by
   rw [show (6:Int)=((6:Nat):Int) from rfl,shr64 _ _ (by decide),xor64 _ _ (rr_lt _ a2) (rr_lt _ a2),xor64 _ _ (xor_lt64 (rr_lt _ a2) (rr_lt _ a2)) (div_lt64 _ a2)]; rfl
  have sm:∀ a b c e:Nat,u64.wrap (u64.wrap (u64.wrap ((a:Int)+(b:Int))+(c:Int))+(e:Int))=((W64 (a+b+c+e):Nat):Int):=fun a b c e=>by
   rw [<-Int.natCast_add,wu64n,<-Int.natCast_add,wu64n,<-Int.natCast_add,wu64n,W64]
   have:((((a+b)%18446744073709551616+c)%18446744073709551616)+e)%18446744073709551616=(a+b+c+e)%18446744073709551616:=by omega
   rw [this]
  rw [x0',x1',sm,up_set,wi64 (by omega) (by omega)]
  exact h
theorem not64' (x:Nat) (hx:x < 18446744073709551616):u64.wrap ((18446744073709551615:Int) - (x:Int))=((18446744073709551615 - x:Nat):Int):=by
 rw [show (18446744073709551615:Int) - (x:Int)=((18446744073709551615 - x:Nat):Int) by omega,wu64n,Nat.mod_eq_of_lt (by omega)]
theorem rs_rounds {β:Type} (F:Str) (a:Nat) (fu:Nat) (z x2:List Int) (m1 m2 m3:Nat) (G:Option St->Option β) (H:Ex->Option St->Option β) (s w:List Nat) (hs:okW s):∀ (d n i:Nat),i+d=80->d < n ->
  lpA prog gI_ShRS fu ShRS_b7 (ShRS_k7 _ rK _ rTurn (fun t=>(t:Int)) fu G H) n (some (ShRS_s7 F.length 8 (up kN) 80 (a:Int) 80 (up (rnds w s i)) 8 (i:Int) z m1 (F.map ofB) m2 x2 m3 (up w))) =
   ShRS_L8 _ rK _ rTurn (fun t=>(t:Int)) fu G H F.length 8 (up kN) 80 (a:Int) (up (rnds w s 80)) 8 0 z m1 (F.map ofB) m2 x2:=by
 intro d
 induction d with
 | zero=>
  intro n i hi hn
  obtain ⟨n,rfl⟩:=Nat.exists_eq_succ_of_ne_zero (by omega:n ≠ 0)
  have:i=80:=by omega
  subst this
  rw [lpA_succ,ShRS_r7,decide_eq_false (by decide),cond_false,kOut_some,ShRS_c7e12]
 | succ d ih=>
  intro n i hi hn
  obtain ⟨n,rfl⟩:=Nat.exists_eq_succ_of_ne_zero (by omega:n ≠ 0)
  have h:=ih n (i+1) (by omega) (by omega)
  have ok:=okW_rnds w hs i
  rw [show rnds w s (i+1)=rnd (rnds w s i) (kN.getD i 0) (w.getD i 0) from rfl] at h
  rw [lpA_succ,ShRS_r7,decide_eq_true (by omega),cond_true]
  generalize rnds w s i=t at ok h ⊢
  have t14:=run_Turn _ 14 (ok 4) (by decide) (by decide)
  have t18:=run_Turn _ 18 (ok 4) (by decide) (by decide)
  have t41:=run_Turn _ 41 (ok 4) (by decide) (by decide)
  have t28:=run_Turn _ 28 (ok 0) (by decide) (by decide)
  have t34:=run_Turn _ 34 (ok 0) (by decide) (by decide)
  have t39:=run_Turn _ 39 (ok 0) (by decide) (by decide)
  simp only [Int.cast_ofNat_Int] at t14 t18 t41 t28 t34 t39
  simp only [Int.toNat_natCast,up_getD]
  simp (disch:=omega) only [dT,cond_true,t14,Option.bind_some,t18,t41,t28,t34,t39]
  have y:=nx_y t ok
  have x:=nx_x t ok (kN.getD i 0) (w.getD i 0)
  rw [not64 _ (ok 4),<-not64' _ (ok 4)] at x
  rw [x,y,wi64 (by omega) (by omega)]
  have sm:∀ a b:Nat,u64.wrap ((a:Int)+(b:Int))=((W64 (a+b):Nat):Int):=fun a b=>by rw [<-Int.natCast_add,wu64n]; rfl
  rw [sm,sm]
  exact h
theorem rs_mix {β:Type} (F:Str) (a:Nat) (hF:F.length <= 1099511627776) (ha:a+128 <= F.length) (fu:Nat) (z:List Int) (m1 m2:Nat) (G:Option St->Option β) (H:Ex->Option St->Option β) (s t:List Nat):∀ (d n i:Nat),i+d=8->d < n ->
  lpA prog gI_ShRS fu ShRS_b8 (ShRS_k8 _ rK _ rTurn (fun t=>(t:Int)) fu G H) n (some (ShRS_s8 F.length 8 (up kN) 80 (a:Int) (up t) 8 (i:Int) z m1 (F.map ofB) m2 (up (mixN s t i)))) =
   G (some (ShRS_s3 F.length 8 (up kN) 80 ((a+128:Nat):Int) z m1 (F.map ofB) m2 (up (mixN s t 8)))):=by
 intro d
 induction d with
 | zero=>
  intro n i hi hn
  obtain ⟨n,rfl⟩:=Nat.exists_eq_succ_of_ne_zero (by omega:n ≠ 0)
  have:i=8:=by omega
  subst this
  rw [lpA_succ,ShRS_r8,decide_eq_false (by decide),cond_false,kOut_some,ShRS_c8e14,wi64 (by omega) (by omega)]; rfl
 | succ d ih=>
  intro n i hi hn
  obtain ⟨n,rfl⟩:=Nat.exists_eq_succ_of_ne_zero (by omega:n ≠ 0)
  have h:=ih n (i+1) (by omega) (by omega)
  have sm:∀ a b:Nat,u64.wrap ((a:Int)+(b:Int))=((W64 (a+b):Nat):Int):=fun a b=>by rw [<-Int.natCast_add,wu64n]; rfl
  rw [lpA_succ,ShRS_r8]
  simp (disch:=omega) only [dT,cond_true]
  rw [Int.toNat_natCast,up_getD,up_getD,sm,up_set,wi64 (by omega) (by omega)]
  exact h
theorem up_eight {s:List Nat} (h:s.length=8):[(up s).getD 0 0,(up s).getD 1 0,(up s).getD 2 0,(up s).getD 3 0,(up s).getD 4 0,(up s).getD 5 0,(up s).getD 6 0,(up s).getD 7 0]=up s:=by
 match s,h with
 | [a,b,c,d,e,f,g,i],_=>rfl
theorem rs_blocks (F:Str) (hF:F.length <= 1099511627776) (z:List Int) (m1 m2:Nat) (fu:Nat) (hfu:80 < fu):∀ (q n a:Nat) (h:List Nat),a+128*q=F.length->h.length=8->okW h->q < n ->
  lpA prog gI_ShRS fu ShRS_b3 (ShRS_k3 _ rK _ rTurn (fun t=>(t:Int)) fu) n (some (ShRS_s3 F.length 8 (up kN) 80 (a:Int) z m1 (F.map ofB) m2 (up h))) =
   ShRS_L9 _ rK _ rTurn (fun t=>(t:Int)) fu 8 0 z m2 (up (blocks h q (F.drop a))) zeros64:=by
 intro q
 induction q with
 | zero=>
  intro n a h hq hl ok hn
  obtain ⟨n,rfl⟩:=Nat.exists_eq_succ_of_ne_zero (by omega:n ≠ 0)
  rw [lpA_succ,ShRS_r3,decide_eq_false (by omega),cond_false,kOut_some,ShRS_c3e4]; rfl
 | succ q ih=>
  intro n a h hq hl ok hn
  obtain ⟨n,rfl⟩:=Nat.exists_eq_succ_of_ne_zero (by omega:n ≠ 0)
  rw [lpA_succ,ShRS_r3,decide_eq_true (by omega),cond_true]
  have o:=rs_outer F a (by omega) hF fu (by omega) z (up h) m1 m2 80 (lpA prog gI_ShRS fu ShRS_b3 (ShRS_k3 _ rK _ rTurn (fun t=>(t:Int)) fu) n) (kOut (ShRS_k3 _ rK _ rTurn (fun t=>(t:Int)) fu)) 16 fu 0 (by omega) (by omega)
  refine Eq.trans (Eq.trans ?_ o) ?_
  ·rfl
  have c:=rs_sched F a fu z (up h) m1 m2 80 (lpA prog gI_ShRS fu ShRS_b3 (ShRS_k3 _ rK _ rTurn (fun t=>(t:Int)) fu) n) (kOut (ShRS_k3 _ rK _ rTurn (fun t=>(t:Int)) fu)) (blk ((F.drop a).take 128) 16) (blk_ok _ _) (by rw [dn_up_id]) 64 fu 0 (by omega) (by omega)
  refine Eq.trans (Eq.trans ?_ c) ?_
  ·rfl
  rw [up_eight hl]
  have r:=rs_rounds F a fu z (up h) m1 m2 80 (lpA prog gI_ShRS fu ShRS_b3 (ShRS_k3 _ rK _ rTurn (fun t=>(t:Int)) fu) n) (kOut (ShRS_k3 _ rK _ rTurn (fun t=>(t:Int)) fu)) h (sched (blk ((F.drop a).take 128) 16) 64) ok 80 fu 0 (by omega) (by omega)
  refine Eq.trans (Eq.trans ?_ r) ?_
  ·rfl
  have x:=rs_mix F a hF (by omega) fu z m1 m2 (lpA prog gI_ShRS fu ShRS_b3 (ShRS_k3 _ rK _ rTurn (fun t=>(t:Int)) fu) n) (kOut (ShRS_k3 _ rK _ rTurn (fun t=>(t:Int)) fu)) h (rnds (sched (blk ((F.drop a).take 128) 16) 64) h 80) 8 fu 0 (by omega) (by omega)
  refine Eq.trans (Eq.trans ?_ x) ?_
  ·rfl
  have i:=ih n (a+128) (nextN h ((F.drop a).take 128)) (by omega) (nextN_len _ hl) (nextN_ok _ ok) (by omega)
  rw [<-List.drop_drop] at i
  exact i
theorem rs_out (h:List Nat) (ok:okW h) (z:List Int) (m:Nat) (fu:Nat):∀ (d n i:Nat),i+d=64->d < n ->
  lpA prog gI_ShRS fu ShRS_b9 (ShRS_k9 _ rK _ rTurn (fun t=>(t:Int)) fu) n (some (ShRS_s9 8 (i:Int) z m (up h) (up (outB h i)++List.replicate (64 - i) 0)))=some (.agg (.ints .u8 (up (outB h 64))) 64):=by
 intro d
 induction d with
 | zero=>
  intro n i hi hn
  obtain ⟨n,rfl⟩:=Nat.exists_eq_succ_of_ne_zero (by omega:n ≠ 0)
  have:i=64:=by omega
  subst this
  rw [lpA_succ,ShRS_r9,decide_eq_false (by decide),cond_false,kOut_some,ShRS_c9e16,Nat.sub_self,List.replicate_zero,List.append_nil]
 | succ d ih=>
  intro n i hi hn
  obtain ⟨n,rfl⟩:=Nat.exists_eq_succ_of_ne_zero (by omega:n ≠ 0)
  have h':=ih n (i+1) (by omega) (by omega)
  have h1:((i:Nat):Int).tdiv 8=((i / 8:Nat):Int):=by rw [Int.tdiv_eq_ediv_of_nonneg (by omega)]; omega
  have h2:((i:Nat):Int).tmod 8=((i%8:Nat):Int):=by rw [Int.tmod_eq_emod_of_nonneg (by omega)]; omega
  have e1:i64.wrap (((i:Nat):Int).tdiv 8)=((i / 8:Nat):Int):=by rw [h1]; exact wi64 (by omega) (by omega)
  have e2:i64.wrap ((56:Int) - i64.wrap ((8:Int)*((i:Nat):Int).tmod 8))=((56 - 8*(i%8):Nat):Int):=by
   rw [h2,wi64 (n:=8*((i%8:Nat):Int)) (by omega) (by omega),wi64 (by omega) (by omega)]; omega
  rw [lpA_succ,ShRS_r9,decide_eq_true (by omega),cond_true,e1,e2,decide_eq_true (by omega),cond_true,decide_eq_false (by omega),cond_false,decide_eq_true (by omega),cond_true,Int.toNat_natCast,Int.toNat_natCast,Nat.zero_add,up_getD,shr64 _ _ (by omega),wu8n,wi64 (by omega) (by omega),outB_set h i (by omega)]
  exact h'
theorem rs_all (s:Str) (h1:s.length <= 1099511627000) (fu:Nat) (hf:(full s).length+100 < fu):afunc prog fF108 gI_ShRS fu [.str s]=some (.agg (.ints .u8 (up (sumB s))) 64):=by
 refine (ShRS_ev ..).trans ?_
 rw [decide_eq_true (by omega),cond_true,decide_eq_true (by omega),cond_true]
 have hw:u64.wrap (u64.wrap ((s.length:Nat):Int)*8)=((s.length*8:Nat):Int):=by
  rw [wu64n,Nat.mod_eq_of_lt (by omega),show ((s.length:Nat):Int)*8=((s.length*8:Nat):Int) by omega,wu64n,Nat.mod_eq_of_lt (by omega)]
 rw [hw]
 have hl:=padN_len s
 have fl:=full_len s
 have fe:(full s).length=(padN s).length+8:=by rw [full,List.length_append,be_len]
 have a:=rs_l1 s h1 ((s.length*8:Nat):Int) zeros64 fu _ fu 0 (Nat.zero_add _) (by omega)
 have b:=rs_l2 (padN s) (by omega) (s.length*8) (by omega) zeros64 fu 8 fu 0 (by omega) (by omega)
 rw [show padN s++be (s.length*8) 0=padN s from List.append_nil _,<-fe] at b
 have c:=rs_blocks (full s) (by omega) zeros64 ((full s).length*1) 8 fu (by omega) ((full s).length / 128) fu 0 hN (by omega) rfl okW_hN (by omega)
 have e:=rs_out (blocks hN ((full s).length / 128) (full s)) (blocks_ok _ _ _ okW_hN) zeros64 8 fu 64 fu 0 (by omega) (by omega)
 rw [zeros64_eq] at e
 rw [List.drop_zero] at c
 rw [show (List.replicate 0 (0:UInt8))=[] from rfl,List.append_nil,List.map_append] at a
 exact Eq.trans a (Eq.trans b (Eq.trans c e))
theorem ok_RefSum:CallOk prog nF108 sRefSum:=by
 refine afunc_okE (g:=gI_ShRS) (fu:=fun args=>match args with | [.c (.s (.pl (.str s)))]=>(full s).length+101 | _=>0) mixed gok_ShRS hF108 (by kernel_rfl) ?_
 intro args t ht
 unfold sRefSum at ht
 simp only at ht
 split at ht
 ·rename_i s
  obtain ⟨h1,h2⟩:=ctrueS ht
  subst h2
  rw [Nat.ble_eq] at h1
  exact rs_all s h1 _ (Nat.lt_succ_self _)
 ·cases ht
section
variable (T0:Type) (R0:List AV->Option T0) (f0a:T0->List UInt8) (T1:Type) (R1:List AV->Option T1) (f1a:T1->List UInt8) (T2:Type) (R2:List AV->Option T2) (f2a:T2->List Int)
def g_Aw2:Cg:=⟨⟨gam [(nF163,⟨R0,fun t=>AV.str (f0a t)⟩),(nF162,⟨R1,fun t=>AV.str (f1a t)⟩),(nF103,⟨R2,fun t=>AV.agg (.ints .u8 (f2a t)) 64⟩)],[],noE⟩,[]⟩
theorem Aw2_ev (fu:Nat):afunc prog fF146 (g_Aw2 T0 R0 f0a T1 R1 f1a T2 R2 f2a) fu []=(R0 [.int .i64 (8:Int),.s (.dat (.strs ([[(97:UInt8)]]++[[(98:UInt8),99]])) 2 1)]).bind fun t=>(R1 [.str (f0a t)]).bind fun t=>bif decide (f1a t=[(100:UInt8),100,97,102,51,53,97,49,57,51,54,49,55,97,98,97]) then (R2 [.s (.dat (.strs []) 0 1)]).bind fun t=>some (AV.bool (decide ((64:Int)=(64:Int)))) else some (AV.bool false):=by kernel_rfl
end
section
variable (T0:Type) (R0:List AV->Option T0) (f0a:T0->List Int) (T1:Type) (R1:List AV->Option T1) (f1a:T1->List UInt8)
def g_RfH:Cg:=⟨⟨gam [(nF108,⟨R0,fun t=>AV.agg (.ints .u8 (f0a t)) 64⟩),(nF107,⟨R1,fun t=>AV.str (f1a t)⟩)],[],noE⟩,[]⟩
theorem RfH_ev (fu:Nat) (s:Str):afunc prog fF70 (g_RfH T0 R0 f0a T1 R1 f1a) fu [.str s]=(R0 [.str s]).bind fun t=>(R1 [.agg (.ints .u8 (f0a t)) 64]).bind fun t=>some (AV.str (f1a t)):=by kernel_rfl
end
def sRefH:Summ where
 T:=Str
 run:=fun
  | [.c (.s (.pl (.str s)))]=>cond (Nat.ble s.length 1099511627000) (some ((up (sumB s)).map b8)) none
  | _=>none
 enc:=fun t=>.str t
def rRefH:List AV->Option Str:=sRefH.run
abbrev gI_Aw2:Cg:=g_Aw2 (List UInt8) rShort (fun t=>t) (List UInt8) rHex (fun t=>t) (List Nat) rSum (fun t=>up t)
theorem gok_Aw2:CfOk prog gI_Aw2.c:=⟨gam_cons ok_Short <| gam_cons ok_Hex <| gam_cons ok_Sum <| gam_nil,fun _ _ h=>by cases h⟩
abbrev gI_RfH:Cg:=g_RfH (List Nat) rRefSum (fun t=>up t) (List UInt8) rText (fun t=>t)
theorem gok_RfH:CfOk prog gI_RfH.c:=⟨gam_cons ok_RefSum <| gam_cons ok_Text <| gam_nil,fun _ _ h=>by cases h⟩
theorem run_Short (k:Int) {ss:List Str} {n:Nat} (h:okSum ss n=true):rShort [.int .i64 k,.s (.dat (.strs ss) n 1)]=some (shortS k (Lib.join ss [])):=by
 show cond (okSum ss n) (some (shortS k (Lib.join ss []))) none=_
 rw [h]; rfl
theorem run_RefSum {s:Str} (h:s.length <= 1099511627000):rRefSum [.str s]=some (sumB s):=by
 show cond (Nat.ble s.length 1099511627000) _ none=_
 rw [show Nat.ble s.length 1099511627000=true by rw [Nat.ble_eq]; exact h]; rfl
theorem run_Text {a:List Int} (h:a.length=64):rText [.agg (.ints .u8 a) 64]=some (a.map b8):=by
 show cond (Nat.beq a.length 64) _ none=_
 rw [h]; rfl
theorem run_RefH {s:Str} (h:s.length <= 1099511627000):rRefH [.str s]=some ((up (sumB s)).map b8):=by
 show cond (Nat.ble s.length 1099511627000) _ none=_
 rw [show Nat.ble s.length 1099511627000=true by rw [Nat.ble_eq]; exact h]; rfl
theorem sumB_len (s:Str):(sumB s).length=64:=outB_len _ _
theorem ok_RefH:CallOk prog nF70 sRefH:=by
 refine afunc_okE (g:=gI_RfH) (fu:=fun _=>0) mixed gok_RfH hF70 (by kernel_rfl) ?_
 intro args t ht
 unfold sRefH at ht
 simp only at ht
 split at ht
 ·rename_i s
  obtain ⟨h1,h2⟩:=ctrueS ht
  subst h2
  rw [Nat.ble_eq] at h1
  refine (RfH_ev ..).trans ?_
  rw [run_RefSum h1,Option.bind_some,run_Text (by rw [up_len,sumB_len]),Option.bind_some]; rfl
 ·cases ht
theorem short_abc:hexS (shortS 8 [97,98,99])=[100,100,97,102,51,53,97,49,57,51,54,49,55,97,98,97]:=by decide +kernel
theorem ok_awake02:CallOk prog nF146 sTrue:=by
 refine afunc_okE (g:=gI_Aw2) (fu:=fun _=>0) mixed gok_Aw2 hF146 (by kernel_rfl) ?_
 intro args t ht
 unfold sTrue at ht
 simp only at ht
 split at ht
 ·cases ht
  refine (Aw2_ev ..).trans ?_
  rw [run_Short 8 (by decide),Option.bind_some,run_Hex (by decide +kernel),Option.bind_some,show Lib.join ([[97]]++[[98,99]]) []=([97,98,99]:Str) from rfl,short_abc,decide_eq_true rfl,cond_true,run_Sum (by decide),Option.bind_some]; rfl
 ·cases ht
theorem pre2_len (n:Nat):(pre2 n).length=2:=rfl
theorem run_Counted {ss:List Str} {n:Nat} (h:Nat.beq n ss.length=true) (h2:ss.length <= 1048576) (h3:(cntL ss).length <= 1099511627776):rCounted [.s (.dat (.strs ss) n 1)]=some (cntL ss):=by
 show cond (Nat.beq n ss.length && Nat.ble ss.length 1048576 && Nat.ble (cntL ss).length 1099511627776) (some (cntL ss)) none=_
 rw [h,show Nat.ble ss.length 1048576=true by rw [Nat.ble_eq]; exact h2,show Nat.ble (cntL ss).length 1099511627776=true by rw [Nat.ble_eq]; exact h3]; rfl
theorem run_Two {n:Nat} (h:n < 4611686018427387904):rTwoB [.int .i64 (n:Int)]=some (pre2 n):=by
 have e:decide (0 <= (n:Int) /\ (n:Int) < 4611686018427387904)=true:=decide_eq_true (by omega)
 simp only [rTwoB,sTwoB,e,cond_true,Int.toNat_natCast]
end
end Go.Eng
