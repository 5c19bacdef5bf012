import Derived.Test.YtdcaobkcdgojgaaZS1
namespace Go.Eng
open Go.IntKind (u64 i64 u8)
noncomputable section
open Go Go.Proofs
set_option linter.all false
section
variable (T0:Type) (R0:List AV->Option T0) (f0a:T0->List UInt8) (T1:Type) (R1:List AV->Option T1) (f1a:T1->List UInt8) (T2:Type) (R2:List AV->Option T2) (T3:Type) (R3:List AV->Option T3) (T4:Type) (R4:List AV->Option T4) (f4a:T4->List Int)
def g_ShSU:Cg:=⟨⟨gam [(nF29,⟨R0,fun t=>AV.str (f0a t)⟩),(nF16,⟨R1,fun t=>AV.str (f1a t)⟩),(nF30,⟨R2,fun t=>AV.agg (.ints .u64 (up hN)) 8⟩),(nF31,⟨R3,fun t=>AV.agg (.ints .u64 (up kN)) 80⟩),(nF32,⟨R4,fun t=>AV.agg (.ints .u64 (f4a t)) 8⟩)],[],noE⟩,[(6,[2,3,4,5],[2,3]),(10,[2,3,6,7],[2,6]),(15,[2,6,8,48],[2,8])]⟩
def ShSU_s1 (s3:Str) (v4 v5:Int) (x_0:List Int):St:={ tm:=[(2,.s (.ptr 0 0 64)),(3,.str s3),(4,.int .u64 v4),(5,.int .i64 v5)],hp:=[(0,{ ty:=50,n:=64,row:=Row.t (.ints .u8 x_0) })],nx:=1,sz:=65 }
def ShSU_b1:Code:=bodyL (codeAt [1,1,1,1,0,1,2] (codeF fF18))
def ShSU_k1 (fu:Nat):=kAt prog (g_ShSU T0 R0 f0a T1 R1 f1a T2 R2 T3 R3 T4 R4 f4a) fu [1,1,1,1,0,1,2] (codeF fF18) (kFin prog fF18)
abbrev ShSU_L1 (fu:Nat) (s3:Str) (v4 v5:Int) (x_0:List Int):=lpA prog (g_ShSU T0 R0 f0a T1 R1 f1a T2 R2 T3 R3 T4 R4 f4a) fu ShSU_b1 (ShSU_k1 T0 R0 f0a T1 R1 f1a T2 R2 T3 R3 T4 R4 f4a fu ) fu (some (ShSU_s1 s3 v4 v5 x_0))
theorem ShSU_ev (fu:Nat) (ss:List Str) (n:Nat):afunc prog fF18 (g_ShSU T0 R0 f0a T1 R1 f1a T2 R2 T3 R3 T4 R4 f4a) fu [.s (.dat (.strs ss) n 1)]=(R0 [.s (.dat (.strs ss) n 1),.str []]).bind fun t=>(R1 [.str [(0:UInt8)],.int .i64 ((i64.wrap ((247:Int) - (↑(f0a t).length:Int).tmod (128:Int))).tmod (128:Int))]).bind fun t_1=>bif decide (1+(f1a t_1).length <= 9223372036854775807) then bif decide ((f0a t).length+List.length ([(128:UInt8)]++f1a t_1) <= 9223372036854775807) then ShSU_L1 T0 R0 f0a T1 R1 f1a T2 R2 T3 R3 T4 R4 f4a fu (f0a t++([(128:UInt8)]++f1a t_1)) (u64.wrap (u64.wrap (↑(f0a t).length:Int)*(8:Int))) (7:Int) [(0:Int),0,0,0,0,0,0,0,0,0,0,0,0,0,0,0,0,0,0,0,0,0,0,0,0,0,0,0,0,0,0,0,0,0,0,0,0,0,0,0,0,0,0,0,0,0,0,0,0,0,0,0,0,0,0,0,0,0,0,0,0,0,0,0] else none else none:=by kernel_rfl
def ShSU_o1e0 (s3:Str) (x_0:List Int):St:={ tm:=[(2,.s (.ptr 0 0 64)),(3,.str s3)],hp:=[(0,{ ty:=50,n:=64,row:=Row.t (.ints .u8 x_0) })],nx:=1,sz:=65 }
theorem ShSU_r1 {β:Type} (fu:Nat) (G:Option St->Option β) (H:Ex->Option St->Option β) (s3:Str) (v4 v5:Int) (x_0:List Int):lpR prog (g_ShSU T0 R0 f0a T1 R1 f1a T2 R2 T3 R3 T4 R4 f4a) fu ShSU_b1 G H (ShSU_s1 s3 v4 v5 x_0)=bif decide ((0:Int) <= v5) then bif decide (i64.wrap ((8:Int)*v5) < (0:Int)) then none else bif decide (List.length s3+1 <= 9223372036854775807) then G (some (ShSU_s1 (s3++List.map b8 [u8.wrap (bShr .u64 v4 (i64.wrap ((8:Int)*v5)))]) v4 (i64.wrap (v5 - (1:Int))) x_0)) else none else H (Ex.exit 0) (some (ShSU_o1e0 s3 x_0)):=by kernel_rfl
def ShSU_s2 (s3:Str) (x_0 x_1 x_2:List Int):St:={ tm:=[(2,.s (.ptr 0 0 64)),(3,.str s3),(6,.s (.ptr 1 0 8)),(7,.s (.ptr 2 0 80))],hp:=[(0,{ ty:=50,n:=64,row:=Row.t (.ints .u8 x_0) }),(1,{ ty:=72,n:=8,row:=Row.t (.ints .u64 x_1) }),(2,{ ty:=74,n:=80,row:=Row.t (.ints .u64 x_2) })],nx:=3,sz:=65 }
def ShSU_b2:Code:=bodyL (codeAt [1,1,1,1,1,1,0,2] (codeF fF18))
def ShSU_k2 (fu:Nat):=kAt prog (g_ShSU T0 R0 f0a T1 R1 f1a T2 R2 T3 R3 T4 R4 f4a) fu [1,1,1,1,1,1,0,2] (codeF fF18) (kFin prog fF18)
abbrev ShSU_L2 (fu:Nat) (s3:Str) (x_0 x_1 x_2:List Int):=lpA prog (g_ShSU T0 R0 f0a T1 R1 f1a T2 R2 T3 R3 T4 R4 f4a) fu ShSU_b2 (ShSU_k2 T0 R0 f0a T1 R1 f1a T2 R2 T3 R3 T4 R4 f4a fu ) fu (some (ShSU_s2 s3 x_0 x_1 x_2))
theorem ShSU_c1e0 (fu:Nat) (s3:Str) (x_0:List Int):ShSU_k1 T0 R0 f0a T1 R1 f1a T2 R2 T3 R3 T4 R4 f4a fu  (Ex.exit 0) (ShSU_o1e0 s3 x_0)=(R2 []).bind fun t=>(R3 []).bind fun t=>ShSU_L2 T0 R0 f0a T1 R1 f1a T2 R2 T3 R3 T4 R4 f4a fu s3 x_0 (up hN) (up kN):=by kernel_rfl
def ShSU_o2e2 (x_0 x_1:List Int):St:={ tm:=[(2,.s (.ptr 0 0 64)),(6,.s (.ptr 1 0 8))],hp:=[(0,{ ty:=50,n:=64,row:=Row.t (.ints .u8 x_0) }),(1,{ ty:=72,n:=8,row:=Row.t (.ints .u64 x_1) })],nx:=2,sz:=65 }
theorem ShSU_r2 {β:Type} (fu:Nat) (G:Option St->Option β) (H:Ex->Option St->Option β) (s3:Str) (x_0 x_1 x_2:List Int):lpR prog (g_ShSU T0 R0 f0a T1 R1 f1a T2 R2 T3 R3 T4 R4 f4a) fu ShSU_b2 G H (ShSU_s2 s3 x_0 x_1 x_2)=bif !decide (s3=[]) then bif decide ((0:Int) <= (0:Int) /\ (0:Int) <= (128:Int) /\ (128:Int) <= (↑(List.length s3):Int)) then (R4 [.agg (.ints .u64 x_1) 8,.s (.rptr (.ints .u64 x_2) 0 80),.str (sl s3 (0:Int) (128:Int))]).bind fun t=>bif decide ((0:Int) <= (128:Int) /\ (128:Int) <= (↑(List.length s3):Int) /\ (↑(List.length s3):Int) <= (↑(List.length s3):Int)) then G (some (ShSU_s2 (sl s3 (128:Int) (↑(List.length s3):Int)) x_0 (f4a t) x_2)) else none else none else H (Ex.exit 2) (some (ShSU_o2e2 x_0 x_1)):=by kernel_rfl
def ShSU_s3 (v48:Int) (x_0 x_1 x_2:List Int):St:={ tm:=[(2,.s (.ptr 0 0 64)),(6,.s (.ptr 1 0 8)),(8,.s (.ptr 2 0 64)),(48,.int .i64 v48)],hp:=[(0,{ ty:=50,n:=64,row:=Row.t (.ints .u8 x_0) }),(1,{ ty:=72,n:=8,row:=Row.t (.ints .u64 x_1) }),(2,{ ty:=50,n:=64,row:=Row.t (.ints .u8 x_2) })],nx:=3,sz:=65 }
def ShSU_b3:Code:=bodyL (codeAt [1,1,1,1,1,1,1,1,0,1,2] (codeF fF18))
def ShSU_k3 (fu:Nat):=kAt prog (g_ShSU T0 R0 f0a T1 R1 f1a T2 R2 T3 R3 T4 R4 f4a) fu [1,1,1,1,1,1,1,1,0,1,2] (codeF fF18) (kFin prog fF18)
abbrev ShSU_L3 (fu:Nat) (v48:Int) (x_0 x_1 x_2:List Int):=lpA prog (g_ShSU T0 R0 f0a T1 R1 f1a T2 R2 T3 R3 T4 R4 f4a) fu ShSU_b3 (ShSU_k3 T0 R0 f0a T1 R1 f1a T2 R2 T3 R3 T4 R4 f4a fu ) fu (some (ShSU_s3 v48 x_0 x_1 x_2))
theorem ShSU_c2e2 (fu:Nat) (x_0 x_1:List Int):ShSU_k2 T0 R0 f0a T1 R1 f1a T2 R2 T3 R3 T4 R4 f4a fu  (Ex.exit 2) (ShSU_o2e2 x_0 x_1)=ShSU_L3 T0 R0 f0a T1 R1 f1a T2 R2 T3 R3 T4 R4 f4a fu (0:Int) x_0 x_1 [(0:Int),0,0,0,0,0,0,0,0,0,0,0,0,0,0,0,0,0,0,0,0,0,0,0,0,0,0,0,0,0,0,0,0,0,0,0,0,0,0,0,0,0,0,0,0,0,0,0,0,0,0,0,0,0,0,0,0,0,0,0,0,0,0,0]:=by kernel_rfl
def ShSU_o3e4 (x_0 x_1:List Int):St:={ tm:=[(2,.s (.ptr 0 0 64)),(8,.s (.ptr 1 0 64))],hp:=[(0,{ ty:=50,n:=64,row:=Row.t (.ints .u8 x_0) }),(1,{ ty:=50,n:=64,row:=Row.t (.ints .u8 x_1) })],nx:=2,sz:=65 }
theorem ShSU_r3 {β:Type} (fu:Nat) (G:Option St->Option β) (H:Ex->Option St->Option β) (v48:Int) (x_0 x_1 x_2:List Int):lpR prog (g_ShSU T0 R0 f0a T1 R1 f1a T2 R2 T3 R3 T4 R4 f4a) fu ShSU_b3 G H (ShSU_s3 v48 x_0 x_1 x_2)=bif decide (v48 < (64:Int)) then bif decide ((0:Int) <= i64.wrap (v48.tdiv (8:Int)) /\ i64.wrap (v48.tdiv (8:Int)) < (8:Int)) then bif decide (i64.wrap ((56:Int) - i64.wrap ((8:Int)*v48.tmod (8:Int))) < (0:Int)) then none else bif decide ((0:Int) <= v48 /\ v48 < (64:Int)) then G (some (ShSU_s3 (i64.wrap (v48+(1:Int))) x_0 x_1 (x_2.set (0+v48.toNat) (u8.wrap (bShr .u64 (x_1.getD (0+(i64.wrap (v48.tdiv (8:Int))).toNat) (0:Int)) (i64.wrap ((56:Int) - i64.wrap ((8:Int)*v48.tmod (8:Int))))))))) else none else none else H (Ex.exit 4) (some (ShSU_o3e4 x_0 x_2)):=by kernel_rfl
theorem ShSU_c3e4 (fu:Nat) (x_0 x_1:List Int):ShSU_k3 T0 R0 f0a T1 R1 f1a T2 R2 T3 R3 T4 R4 f4a fu  (Ex.exit 4) (ShSU_o3e4 x_0 x_1)=some (AV.agg (.ints .u8 x_1) 64):=by kernel_rfl
end
def g_ShCT:Cg:=⟨⟨gam [],[],noE⟩,[(4,[3,6,7,8],[3])]⟩
def ShCT_s1 (s3:List UInt8) (x6:List Str) (n6:Nat) (v7 v8:Int):St:={ tm:=[(3,.str s3),(6,.s (.dat (.strs x6) n6 1)),(7,.int .i64 v7),(8,.int .i64 v8)],hp:=[],nx:=0,sz:=27 }
def ShCT_b1:Code:=bodyL (codeAt [1,1,0,1,2] (codeF fF14))
def ShCT_k1 (fu:Nat):=kAt prog g_ShCT fu [1,1,0,1,2] (codeF fF14) (kFin prog fF14)
abbrev ShCT_L1 (fu:Nat) (s3:List UInt8) (x6:List Str) (n6:Nat) (v7 v8:Int):=lpA prog g_ShCT fu ShCT_b1 (ShCT_k1 fu ) fu (some (ShCT_s1 s3 x6 n6 v7 v8))
theorem ShCT_ev (fu:Nat) (ss:List Str) (n:Nat):afunc prog fF14 g_ShCT fu [.s (.dat (.strs ss) n 1)]=ShCT_L1 fu [] ss n (↑n:Int) (0:Int):=by kernel_rfl
def ShCT_o1e0 (s3:List UInt8):St:={ tm:=[(3,.str s3)],hp:=[],nx:=0,sz:=27 }
theorem ShCT_r1 {β:Type} (fu:Nat) (G:Option St->Option β) (H:Ex->Option St->Option β) (s3:List UInt8) (x6:List Str) (n6:Nat) (v7 v8:Int):lpR prog g_ShCT fu ShCT_b1 G H (ShCT_s1 s3 x6 n6 v7 v8)=bif decide (v8 < v7) then bif decide ((0:Int) <= v8 /\ v8 < (↑n6:Int)) then bif decide (2+List.length (x6.getD v8.toNat []) <= 9223372036854775807) then bif decide (s3.length+List.length (List.map b8 ([u8.wrap (bShr .i64 (↑(List.length (x6.getD v8.toNat [])):Int) (8:Int))]++[u8.wrap (↑(List.length (x6.getD v8.toNat [])):Int)])++x6.getD v8.toNat []) <= 9223372036854775807) then G (some (ShCT_s1 (s3++(List.map b8 ([u8.wrap (bShr .i64 (↑(List.length (x6.getD v8.toNat [])):Int) (8:Int))]++[u8.wrap (↑(List.length (x6.getD v8.toNat [])):Int)])++x6.getD v8.toNat [])) x6 n6 v7 (i64.wrap (v8+(1:Int))))) else none else none else none else H (Ex.exit 0) (some (ShCT_o1e0 s3)):=by kernel_rfl
theorem ShCT_c1e0 (fu:Nat) (s3:List UInt8):ShCT_k1 fu  (Ex.exit 0) (ShCT_o1e0 s3)=some (AV.str s3):=by kernel_rfl
abbrev gI_ShSU:Cg:=g_ShSU (List UInt8) rJoin (fun t=>t) (List UInt8) rRepeat (fun t=>t) (PUnit) rBegun (PUnit) rKeys (List Nat) rNext (fun t=>up t)
theorem gok_ShSU:CfOk prog gI_ShSU.c:=⟨gam_cons ok_Join <| gam_cons ok_Repeat <| gam_cons ok_Begun <| gam_cons ok_Keys <| gam_cons ok_Next <| gam_nil,fun _ _ h=>by cases h⟩
abbrev zeros64:List Int:=[0,0,0,0,0,0,0,0,0,0,0,0,0,0,0,0,0,0,0,0,0,0,0,0,0,0,0,0,0,0,0,0,0,0,0,0,0,0,0,0,0,0,0,0,0,0,0,0,0,0,0,0,0,0,0,0,0,0,0,0,0,0,0,0]
theorem dn_up_id (l:List Nat):dn (up l)=l:=by
 rw [dn,up,List.map_map]
 exact (List.map_congr_left fun n _=>Int.toNat_natCast n).trans (List.map_id _)
theorem okL_up {l:List Nat} (h:∀ x ∈ l,x < 18446744073709551616):okL (up l)=true:=by
 induction l with
 | nil=>rfl
 | cons x r ih=>
  show (decide (0 <= (x:Int) /\ (x:Int) < 18446744073709551616) && okL (up r))=true
  have:=h x (by simp)
  rw [decide_eq_true (by omega),ih fun y hy=>h y (by simp [hy])]; rfl
theorem okW_mem {l:List Nat} (h:okW l):∀ x ∈ l,x < 18446744073709551616:=by
 intro x hx
 obtain ⟨i,hi⟩:=List.mem_iff_getElem?.1 hx
 have:=h i
 rw [List.getD_eq_getElem?_getD,hi] at this
 exact this
theorem run_Next {h:List Nat} {b:Str} (hl:h.length=8) (ok:okW h) (hb:b.length=128):rNext [.agg (.ints .u64 (up h)) 8,.s (.rptr (.ints .u64 (up kN)) 0 80),.str b]=some (nextN h b):=by
 show cond (ok8W (up h) && decide (up kN=up kN) && Nat.beq b.length 128) (some (nextN (dn (up h)) b)) none=_
 have e:ok8W (up h)=true:=by rw [ok8W,up_len,hl,okL_up (okW_mem ok)]; rfl
 rw [e,decide_eq_true rfl,hb,dn_up_id]; rfl
theorem mixN_len (s t:List Nat):∀ i,(mixN s t i).length=s.length:=by
 intro i
 induction i with
 | zero=>rfl
 | succ i ih=>rw [mixN,List.length_set,ih]
theorem mixN_ok {s:List Nat} (t:List Nat) (h:okW s):∀ i,okW (mixN s t i):=by
 intro i
 induction i with
 | zero=>exact h
 | succ i ih=>exact okW_set ih _ (W64_lt _)
theorem be_len (n:Nat):∀ k,(be n k).length=k:=by
 intro k
 induction k with
 | zero=>rfl
 | succ k ih=>rw [be,List.length_append,ih]; rfl
theorem run_Begun:rBegun []=some ():=rfl
theorem run_Keys:rKeys []=some ():=rfl
theorem run_Repeat (s:Str) (n:Nat) (h:n <= 140737488355328) (h2:s.length*n <= big47):rRepeat [.str s,.int .i64 (n:Int)]=some (Lib.repeatL s n):=by
 show cond (decide (0 <= (n:Int)) && decide ((n:Int) <= 140737488355328) && Nat.ble (s.length*(n:Int).toNat) big47) (some (Lib.repeatL s (n:Int).toNat)) none=_
 rw [decide_eq_true (by omega),decide_eq_true (by omega),Int.toNat_natCast,show Nat.ble (s.length*n) big47=true by rw [Nat.ble_eq]; exact h2]; rfl
theorem su_loop1 (P:Str) (hP:P.length <= 4398046511104) (m:Nat) (hm:m < 18446744073709551616) (y:List Int) (fu:Nat):∀ (d n k:Nat),k+d=8->d < n ->
  lpA prog gI_ShSU fu ShSU_b1 (ShSU_k1 _ rJoin (fun t=>t) _ rRepeat (fun t=>t) _ rBegun _ rKeys _ rNext (fun t=>up t) fu) n (some (ShSU_s1 (P++be m k) (m:Int) (7 - (k:Int)) y)) =
   ShSU_L2 _ rJoin (fun t=>t) _ rRepeat (fun t=>t) _ rBegun _ rKeys _ rNext (fun t=>up t) fu (P++be m 8) y (up hN) (up kN):=by
 intro d
 induction d with
 | zero=>
  intro n k hk hn
  obtain ⟨n,rfl⟩:=Nat.exists_eq_succ_of_ne_zero (by omega:n ≠ 0)
  have:k=8:=by omega
  subst this
  rw [lpA_succ,ShSU_r1,decide_eq_false (by decide),cond_false,kOut_some,ShSU_c1e0,run_Begun,Option.bind_some,run_Keys,Option.bind_some]
 | succ d ih=>
  intro n k hk hn
  obtain ⟨n,rfl⟩:=Nat.exists_eq_succ_of_ne_zero (by omega:n ≠ 0)
  have h:=ih n (k+1) (by omega) (by omega)
  have hl:=be_len m k
  have hix:i64.wrap ((8:Int)*(7 - (k:Int)))=((8*(7 - k):Nat):Int):=by rw [wi64 (by omega) (by omega)]; omega
  rw [lpA_succ,ShSU_r1,decide_eq_true (by omega),cond_true,hix,decide_eq_false (by omega),cond_false,decide_eq_true (by rw [List.length_append,hl]; omega),cond_true,shr64 _ _ (by omega),wu8n,wi64 (by omega) (by omega),List.append_assoc]
  rw [show (7:Int) - (k:Int) - 1=7 - ((k+1:Nat):Int) by omega]
  exact h
theorem okW_hN:okW hN:=by
 intro i
 by_cases h:i < 8
 ·have:∀ i:Fin 8,hN.getD i.1 0 < 18446744073709551616:=by decide
  exact this ⟨i,h⟩
 ·rw [List.getD_eq_getElem?_getD,List.getElem?_eq_none (by show 8 <= i; omega)]; decide
theorem nextN_len {h:List Nat} (b:Str) (hl:h.length=8):(nextN h b).length=8:=by rw [nextN,mixN_len,hl]
theorem nextN_ok {h:List Nat} (b:Str) (ok:okW h):okW (nextN h b):=mixN_ok _ ok 8
theorem su_loop2 (y:List Int) (fu:Nat):∀ (q n:Nat) (s:Str) (h:List Nat),s.length=128*q->h.length=8->okW h->s.length < 9223372036854775808->q < n ->
  lpA prog gI_ShSU fu ShSU_b2 (ShSU_k2 _ rJoin (fun t=>t) _ rRepeat (fun t=>t) _ rBegun _ rKeys _ rNext (fun t=>up t) fu) n (some (ShSU_s2 s y (up h) (up kN))) =
   ShSU_L3 _ rJoin (fun t=>t) _ rRepeat (fun t=>t) _ rBegun _ rKeys _ rNext (fun t=>up t) fu 0 y (up (blocks h q s)) zeros64:=by
 intro q
 induction q with
 | zero=>
  intro n s h hs hl ok hb hn
  obtain ⟨n,rfl⟩:=Nat.exists_eq_succ_of_ne_zero (by omega:n ≠ 0)
  have:s=[]:=List.eq_nil_of_length_eq_zero (by omega)
  subst this
  rw [lpA_succ,ShSU_r2,decide_eq_true rfl,Bool.not_true,cond_false,kOut_some,ShSU_c2e2]; rfl
 | succ q ih=>
  intro n s h hs hl ok hb hn
  obtain ⟨n,rfl⟩:=Nat.exists_eq_succ_of_ne_zero (by omega:n ≠ 0)
  have hne:¬ s=[]:=fun e=>by rw [e] at hs; simp at hs
  have e1:sl s 0 128=s.take 128:=by rw [sl]; rfl
  have e2:sl s 128 (s.length:Int)=s.drop 128:=by
   rw [sl,List.take_of_length_le]
   ·rfl
   rw [List.length_drop]; show s.length - 128 <= ((s.length:Int) - 128).toNat; omega
  have ht:(s.take 128).length=128:=by rw [List.length_take]; omega
  rw [lpA_succ,ShSU_r2,decide_eq_false hne,Bool.not_false,cond_true,decide_eq_true (by omega),cond_true,e1,run_Next hl ok ht,Option.bind_some,decide_eq_true (by omega),cond_true,e2]
  exact ih n (s.drop 128) (nextN h (s.take 128)) (by rw [List.length_drop]; omega) (nextN_len _ hl) (nextN_ok _ ok) (by rw [List.length_drop]; omega) (by omega)
theorem outB_len (h:List Nat) (k:Nat):(outB h k).length=k:=by rw [outB,List.length_map,List.length_range]
theorem outB_set (h:List Nat) (i:Nat) (hi:i < 64):(up (outB h i)++List.replicate (64 - i) 0).set i ((h.getD (i / 8) 0 / 2 ^ (56 - 8*(i%8))%256:Nat):Int)=up (outB h (i+1))++List.replicate (64 - (i+1)) 0:=by
 have e:up (outB h (i+1))=up (outB h i)++[((h.getD (i / 8) 0 / 2 ^ (56 - 8*(i%8))%256:Nat):Int)]:=by
  rw [outB,List.range_succ,List.map_append,up,List.map_append]; rfl
 have hl:(up (outB h i)).length=i:=by rw [up_len,outB_len]
 rw [e,List.set_append_right _ _ (by rw [hl]; omega),hl,Nat.sub_self,show 64 - i=64 - (i+1)+1 by omega,List.replicate_succ,List.set_cons_zero,List.append_assoc]; rfl
theorem su_loop3 (h:List Nat) (ok:okW h) (y:List Int) (fu:Nat):∀ (d n i:Nat),i+d=64->d < n ->
  lpA prog gI_ShSU fu ShSU_b3 (ShSU_k3 _ rJoin (fun t=>t) _ rRepeat (fun t=>t) _ rBegun _ rKeys _ rNext (fun t=>up t) fu) n (some (ShSU_s3 (i:Int) y (up h) (up (outB h i)++List.replicate (64 - i) 0)))=some (.agg (.ints .u8 (up (outB h 64))) 64):=by
 intro d
 induction d with
 | zero=>
  intro n i hi hn
  obtain ⟨n,rfl⟩:=Nat.exists_eq_succ_of_ne_zero (by omega:n ≠ 0)
  have:i=64:=by omega
  subst this
  rw [lpA_succ,ShSU_r3,decide_eq_false (by decide),cond_false,kOut_some,ShSU_c3e4,Nat.sub_self,List.replicate_zero,List.append_nil]
 | succ d ih=>
  intro n i hi hn
  obtain ⟨n,rfl⟩:=Nat.exists_eq_succ_of_ne_zero (by omega:n ≠ 0)
  have h':=ih n (i+1) (by omega) (by omega)
  have h1:((i:Nat):Int).tdiv 8=((i / 8:Nat):Int):=by rw [Int.tdiv_eq_ediv_of_nonneg (by omega)]; omega
  have h2:((i:Nat):Int).tmod 8=((i%8:Nat):Int):=by rw [Int.tmod_eq_emod_of_nonneg (by omega)]; omega
  have e1:i64.wrap (((i:Nat):Int).tdiv 8)=((i / 8:Nat):Int):=by rw [h1]; exact wi64 (by omega) (by omega)
  have e2:i64.wrap ((56:Int) - i64.wrap ((8:Int)*((i:Nat):Int).tmod 8))=((56 - 8*(i%8):Nat):Int):=by
   rw [h2,wi64 (n:=8*((i%8:Nat):Int)) (by omega) (by omega),wi64 (by omega) (by omega)]; omega
  rw [lpA_succ,ShSU_r3,decide_eq_true (by omega),cond_true,e1,e2,decide_eq_true (by omega),cond_true,decide_eq_false (by omega),cond_false,decide_eq_true (by omega),cond_true,Int.toNat_natCast,Int.toNat_natCast,Nat.zero_add,Nat.zero_add,up_getD,shr64 _ _ (by omega),wu8n,wi64 (by omega) (by omega),outB_set h i (by omega)]
  exact h'
theorem blocks_ok:∀ (q:Nat) (s:Str) (h:List Nat),okW h->okW (blocks h q s):=by
 intro q
 induction q with
 | zero=>intro s h ok; exact ok
 | succ q ih=>intro s h ok; exact ih _ _ (nextN_ok _ ok)
theorem rep_len (p:Nat):(Lib.repeatL ([0]:Str) p).length=p:=by rw [Lib.repeatL_length]; simp
theorem padN_len (t:Str):(padN t).length=t.length+1+(247 - t.length%128)%128:=by
 rw [padN,List.length_append,List.length_append,rep_len]; simp; omega
theorem full_len (t:Str):(full t).length=128*((full t).length / 128):=by
 have:(full t).length=t.length+1+(247 - t.length%128)%128+8:=by rw [full,List.length_append,padN_len,be_len]
 omega
theorem zeros64_eq (h:List Nat):up (outB h 0)++List.replicate (64 - 0) 0=zeros64:=rfl
theorem run_Join {ss:List Str} {n:Nat} (h:okSum ss n=true):rJoin [.s (.dat (.strs ss) n 1),.str []]=some (Lib.join ss []):=by
 simp only [okSum,Bool.and_eq_true,Nat.ble_eq] at h
 show cond (Nat.beq n ss.length && Nat.ble ss.length big47 && Nat.ble (Lib.join ss []).length big47) (some (Lib.join ss [])) none=_
 have a:Nat.ble ss.length big47=true:=by rw [Nat.ble_eq]; exact Nat.le_trans h.1.2 (by decide)
 have b:Nat.ble (Lib.join ss []).length big47=true:=by rw [Nat.ble_eq]; exact Nat.le_trans h.2 (by decide)
 rw [h.1.1,a,b]; rfl
theorem su_all (ss:List Str) (n:Nat) (h:okSum ss n=true) (fu:Nat) (hf:(full (Lib.join ss [])).length+100 < fu) :
  afunc prog fF18 gI_ShSU fu [.s (.dat (.strs ss) n 1)]=some (.agg (.ints .u8 (up (sumB (Lib.join ss [])))) 64):=by
 refine (ShSU_ev ..).trans ?_
 rw [run_Join h,Option.bind_some]
 simp only [okSum,Bool.and_eq_true,Nat.ble_eq] at h
 have hb:=h.2
 generalize Lib.join ss []=t at hb hf ⊢
 have hp:(i64.wrap ((247:Int) - ((t.length:Nat):Int).tmod 128)).tmod 128=(((247 - t.length%128)%128:Nat):Int):=by
  have h2:((t.length:Nat):Int).tmod 128=((t.length%128:Nat):Int):=by rw [Int.tmod_eq_emod_of_nonneg (by omega)]; omega
  rw [h2,wi64 (by omega) (by omega),show (247:Int) - ((t.length%128:Nat):Int)=((247 - t.length%128:Nat):Int) by omega,Int.tmod_eq_emod_of_nonneg (by omega)]; omega
 have hr:=rep_len ((247 - t.length%128)%128)
 rw [hp,run_Repeat _ _ (by omega) (Nat.le_trans (show 1*((247 - t.length%128)%128) <= 128 by omega) (by decide)),Option.bind_some,decide_eq_true (by omega),cond_true,decide_eq_true (by rw [List.length_append,hr]; show t.length+(1+_) <= _; omega),cond_true]
 have hw:u64.wrap (u64.wrap ((t.length:Nat):Int)*8)=((t.length*8:Nat):Int):=by
  rw [wu64n,Nat.mod_eq_of_lt (by omega),show ((t.length:Nat):Int)*8=((t.length*8:Nat):Int) by omega,wu64n,Nat.mod_eq_of_lt (by omega)]
 rw [hw]
 have hl:=padN_len t
 have a:=su_loop1 (padN t) (by omega) (t.length*8) (by omega) zeros64 fu 8 fu 0 (by omega) (by omega)
 have fl:=full_len t
 have b:=su_loop2 zeros64 fu ((full t).length / 128) fu (full t) hN fl rfl okW_hN (by rw [full,List.length_append,be_len]; omega) (by omega)
 have c:=su_loop3 (blocks hN ((full t).length / 128) (full t)) (blocks_ok _ _ _ okW_hN) zeros64 fu 64 fu 0 (by omega) (by omega)
 rw [zeros64_eq] at c
 rw [show padN t++be (t.length*8) 0=padN t from List.append_nil _] at a
 exact Eq.trans a (Eq.trans b c)
theorem ok_Sum:CallOk prog nF18 sSum:=by
 refine afunc_okE (g:=gI_ShSU) (fu:=fun args=>match args with | [.c (.s (.dat (.strs ss) n 1))]=>(full (Lib.join ss [])).length+101 | _=>0) mixed gok_ShSU hF18 (by kernel_rfl) ?_
 intro args t ht
 unfold sSum at ht
 simp only at ht
 split at ht
 ·rename_i ss n
  obtain ⟨h1,h2⟩:=ctrueS ht
  subst h2
  exact su_all ss n h1 _ (Nat.lt_succ_self _)
 ·cases ht
def pre2 (n:Nat):Str:=[b8 ((n / 256%256:Nat):Int),b8 ((n%256:Nat):Int)]
def cntL:List Str->Str
 | []=>[]
 | p :: r=>pre2 p.length++p++cntL r
def sCounted:Summ where
 T:=Str
 run:=fun
  | [.c (.s (.dat (.strs ss) n 1))]=>cond (Nat.beq n ss.length && Nat.ble ss.length 1048576 && Nat.ble (cntL ss).length 1099511627776) (some (cntL ss)) none
  | _=>none
 enc:=fun t=>.str t
def rCounted:List AV->Option Str:=sCounted.run
theorem shrI64 (x n:Nat) (h:n < 64) (hx:x < 9223372036854775808):bShr .i64 (x:Int) (n:Int)=((x / 2 ^ n:Nat):Int):=by
 unfold bShr
 have:min ((n:Int).toNat) (IntKind.bits .i64)=n:=by
  simp [IntKind.bits]; omega
 rw [this,Int.fdiv_eq_ediv_of_nonneg _ (by exact_mod_cast Nat.zero_le _)]
 push_cast
 rfl
section
variable (T0:Type) (R0:List AV->Option T0) (f0a:T0->List Int)
def g_ShSH:Cg:=⟨⟨gam [(nF18,⟨R0,fun t=>AV.agg (.ints .u8 (f0a t)) 64⟩)],[],noE⟩,[]⟩
theorem ShSH_ev (fu:Nat) (k:Int) (ss:List Str) (n:Nat):afunc prog fF28 (g_ShSH T0 R0 f0a) fu [.int .i64 k,.s (.dat (.strs ss) n 1)]=(R0 [.s (.dat (.strs ss) n 1)]).bind fun t=>bif decide ((0:Int) <= (0:Int) /\ ((0:Int) <= if (64:Int) < if (0:Int) > k then (0:Int) else k then (64:Int) else if (0:Int) > k then (0:Int) else k) /\ (if (64:Int) < if (0:Int) > k then (0:Int) else k then (64:Int) else if (0:Int) > k then (0:Int) else k) <= (64:Int)) then some (AV.str (List.map b8 (List.take ((if (64:Int) < if (0:Int) > k then (0:Int) else k then (64:Int) else if (0:Int) > k then (0:Int) else k) - (0:Int)).toNat (List.drop 0 (f0a t))))) else none:=by kernel_rfl
end
abbrev gI_ShCT:Cg:=g_ShCT 
theorem gok_ShCT:CfOk prog gI_ShCT.c:=⟨gam_nil,fun _ _ h=>by cases h⟩
theorem cntL_snoc:∀ (l:List Str) (p:Str),cntL (l++[p])=cntL l++(pre2 p.length++p):=by
 intro l
 induction l with
 | nil=>intro p; simp [cntL]
 | cons a r ih=>intro p; simp only [List.cons_append,cntL,ih,List.append_assoc]
theorem cntL_app:∀ (l m:List Str),cntL (l++m)=cntL l++cntL m:=by
 intro l
 induction l with
 | nil=>intro m; rfl
 | cons a r ih=>intro m; simp only [List.cons_append,cntL,ih,List.append_assoc]
theorem take_succ_strs (ss:List Str) (i:Nat) (h:i < ss.length):ss.take (i+1)=ss.take i++[ss.getD i []]:=by
 rw [List.take_add_one,List.getElem?_eq_getElem h,List.getD_eq_getElem?_getD,List.getElem?_eq_getElem h]; rfl
theorem ct_loop (ss:List Str) (h2:ss.length <= 1048576) (h3:(cntL ss).length <= 1099511627776) (fu:Nat):∀ (d n i:Nat),i+d=ss.length->d < n ->
  lpA prog gI_ShCT fu ShCT_b1 (ShCT_k1 fu) n (some (ShCT_s1 (cntL (ss.take i)) ss ss.length (ss.length:Int) (i:Int)))=some (.str (cntL ss)):=by
 intro d
 induction d with
 | zero=>
  intro n i hi hn
  obtain ⟨n,rfl⟩:=Nat.exists_eq_succ_of_ne_zero (by omega:n ≠ 0)
  have e:i=ss.length:=by omega
  rw [lpA_succ,ShCT_r1,decide_eq_false (by omega),cond_false,kOut_some,ShCT_c1e0,e,List.take_length]
 | succ d ih=>
  intro n i hi hn
  obtain ⟨n,rfl⟩:=Nat.exists_eq_succ_of_ne_zero (by omega:n ≠ 0)
  have h:=ih n (i+1) (by omega) (by omega)
  have e:=take_succ_strs ss i (by omega)
  have hl:(cntL (ss.take (i+1))).length <= (cntL ss).length:=by
   have:=cntL_app (ss.take (i+1)) (ss.drop (i+1))
   rw [List.take_append_drop] at this
   rw [this,List.length_append]; omega
  rw [e,cntL_snoc] at h hl
  have hp:(ss.getD i []).length+2 <= 1099511627776:=by
   rw [List.length_append,List.length_append] at hl
   have:(pre2 (ss.getD i []).length).length=2:=rfl
   omega
  have hpre:List.map b8 ([u8.wrap (bShr i64 (((ss.getD i []).length:Nat):Int) (8:Int))]++[u8.wrap (((ss.getD i []).length:Nat):Int)])=pre2 (ss.getD i []).length:=by
   rw [show (8:Int)=((8:Nat):Int) from rfl,shrI64 _ _ (by decide) (by omega),wu8n,wu8n]; rfl
  rw [lpA_succ,ShCT_r1,decide_eq_true (by omega),cond_true,decide_eq_true (by omega),cond_true,Int.toNat_natCast,decide_eq_true (by omega),cond_true,hpre,decide_eq_true (by rw [List.length_append] at hl; omega),cond_true,wi64 (by omega) (by omega)]
  exact h
theorem ok_Counted:CallOk prog nF14 sCounted:=by
 refine afunc_okE (g:=gI_ShCT) (fu:=fun args=>match args with | [.c (.s (.dat (.strs ss) n 1))]=>ss.length+1 | _=>0) mixed gok_ShCT hF14 (by kernel_rfl) ?_
 intro args t ht
 unfold sCounted at ht
 simp only at ht
 split at ht
 ·rename_i ss n
  obtain ⟨h1,h2⟩:=ctrueS ht
  subst h2
  simp only [Bool.and_eq_true,Nat.ble_eq] at h1
  have e:=Nat.eq_of_beq_eq_true h1.1.1
  subst e
  exact (ShCT_ev ..).trans (ct_loop ss h1.1.2 h1.2 _ ss.length _ 0 (by omega) (Nat.lt_succ_self _))
 ·cases ht
abbrev gI_ShSH:Cg:=g_ShSH (List Nat) rSum (fun t=>up t)
theorem gok_ShSH:CfOk prog gI_ShSH.c:=⟨gam_cons ok_Sum <| gam_nil,fun _ _ h=>by cases h⟩
def shortN (k:Int):Nat:=if 64 < k then 64 else k.toNat
def shortS (k:Int) (t:Str):Str:=((up (sumB t)).take (shortN k)).map b8
def sShort:Summ where
 T:=Str
 run:=fun
  | [.c (.s (.pl (.int .i64 k))),.c (.s (.dat (.strs ss) n 1))]=>cond (okSum ss n) (some (shortS k (Lib.join ss []))) none
  | _=>none
 enc:=fun t=>.str t
def rShort:List AV->Option Str:=sShort.run
theorem run_Sum {ss:List Str} {n:Nat} (h:okSum ss n=true):rSum [.s (.dat (.strs ss) n 1)]=some (sumB (Lib.join ss [])):=by
 show cond (okSum ss n) (some (sumB (Lib.join ss []))) none=_
 rw [h]; rfl
theorem ok_Short:CallOk prog nF28 sShort:=by
 refine afunc_okE (g:=gI_ShSH) (fu:=fun _=>0) mixed gok_ShSH hF28 (by kernel_rfl) ?_
 intro args t ht
 unfold sShort at ht
 simp only at ht
 split at ht
 ·rename_i k ss n
  obtain ⟨h1,h2⟩:=ctrueS ht
  subst h2
  refine (ShSH_ev ..).trans ?_
  rw [run_Sum h1,Option.bind_some]
  have e:((if (64:Int) < if (0:Int) > k then (0:Int) else k then (64:Int) else if (0:Int) > k then (0:Int) else k) - (0:Int)).toNat=shortN k:=by
   unfold shortN
   split <;> split <;> first | omega | (split <;> omega)
  have g:decide ((0:Int) <= (0:Int) /\ ((0:Int) <= if (64:Int) < if (0:Int) > k then (0:Int) else k then (64:Int) else if (0:Int) > k then (0:Int) else k) /\
    (if (64:Int) < if (0:Int) > k then (0:Int) else k then (64:Int) else if (0:Int) > k then (0:Int) else k) <= (64:Int))=true:=by
   refine decide_eq_true ⟨Int.le_refl _,?_,?_⟩
   ·split <;> split <;> omega
   ·split <;> split <;> omega
  rw [g,cond_true,e,List.drop_zero]; rfl
 ·cases ht
theorem b8_toNat (n:Nat) (h:n < 256):(b8 (n:Int)).toNat=n:=by
 have:∀ n:Fin 256,(b8 (n.1:Int)).toNat=n.1:=by decide +kernel
 exact this ⟨n,h⟩
section
variable (T0:Type) (R0:List AV->Option T0) (f0a:T0->List UInt8) (T1:Type) (R1:List AV->Option T1) (f1a:T1->List UInt8) (T2:Type) (R2:List AV->Option T2) (f2a:T2->List Int)
def g_Aw2:Cg:=⟨⟨gam [(nF28,⟨R0,fun t=>AV.str (f0a t)⟩),(nF27,⟨R1,fun t=>AV.str (f1a t)⟩),(nF18,⟨R2,fun t=>AV.agg (.ints .u8 (f2a t)) 64⟩)],[],noE⟩,[]⟩
theorem Aw2_ev (fu:Nat):afunc prog fF17 (g_Aw2 T0 R0 f0a T1 R1 f1a T2 R2 f2a) fu []=(R0 [.int .i64 (8:Int),.s (.dat (.strs ([[(97:UInt8)]]++[[(98:UInt8),99]])) 2 1)]).bind fun t=>(R1 [.str (f0a t)]).bind fun t=>bif decide (f1a t=[(100:UInt8),100,97,102,51,53,97,49,57,51,54,49,55,97,98,97]) then (R2 [.s (.dat (.strs []) 0 1)]).bind fun t=>some (AV.bool (decide ((64:Int)=(64:Int)))) else some (AV.bool false):=by kernel_rfl
end
abbrev gI_Aw2:Cg:=g_Aw2 (List UInt8) rShort (fun t=>t) (List UInt8) rHex (fun t=>t) (List Nat) rSum (fun t=>up t)
theorem gok_Aw2:CfOk prog gI_Aw2.c:=⟨gam_cons ok_Short <| gam_cons ok_Hex <| gam_cons ok_Sum <| gam_nil,fun _ _ h=>by cases h⟩
theorem run_Short (k:Int) {ss:List Str} {n:Nat} (h:okSum ss n=true):rShort [.int .i64 k,.s (.dat (.strs ss) n 1)]=some (shortS k (Lib.join ss [])):=by
 show cond (okSum ss n) (some (shortS k (Lib.join ss []))) none=_
 rw [h]; rfl
theorem sumB_len (s:Str):(sumB s).length=64:=outB_len _ _
theorem short_abc:hexS (shortS 8 [97,98,99])=[100,100,97,102,51,53,97,49,57,51,54,49,55,97,98,97]:=by decide +kernel
theorem ok_awake02:CallOk prog nF17 sTrue:=by
 refine afunc_okE (g:=gI_Aw2) (fu:=fun _=>0) mixed gok_Aw2 hF17 (by kernel_rfl) ?_
 intro args t ht
 unfold sTrue at ht
 simp only at ht
 split at ht
 ·cases ht
  refine (Aw2_ev ..).trans ?_
  rw [run_Short 8 (by decide),Option.bind_some,run_Hex (by decide +kernel),Option.bind_some,show Lib.join ([[97]]++[[98,99]]) []=([97,98,99]:Str) from rfl,short_abc,decide_eq_true rfl,cond_true,run_Sum (by decide),Option.bind_some]; rfl
 ·cases ht
theorem pre2_len (n:Nat):(pre2 n).length=2:=rfl
theorem run_Counted {ss:List Str} {n:Nat} (h:Nat.beq n ss.length=true) (h2:ss.length <= 1048576) (h3:(cntL ss).length <= 1099511627776):rCounted [.s (.dat (.strs ss) n 1)]=some (cntL ss):=by
 show cond (Nat.beq n ss.length && Nat.ble ss.length 1048576 && Nat.ble (cntL ss).length 1099511627776) (some (cntL ss)) none=_
 rw [h,show Nat.ble ss.length 1048576=true by rw [Nat.ble_eq]; exact h2,show Nat.ble (cntL ss).length 1099511627776=true by rw [Nat.ble_eq]; exact h3]; rfl
end
end Go.Eng
