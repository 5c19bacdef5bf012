import Derived.Test.YteipjabipehbpaaGreatZS2
namespace Go.Eng
open Go.IntKind (u64 i64 u8)
noncomputable section
open Go Go.Proofs
set_option linter.all false
def hS (s:Str):Str:=(up (sumB s)).map b8
def maskS (s:Str) (x:Nat):Str:=s.map fun c=>b8 ((c.toNat ^^^ x:Nat):Int)
def keyS (key:Str):Str:=if 128 < key.length then hS key else key
def wholeS (key:Str):Str:=keyS key++List.replicate (128 - (keyS key).length) 0
def hmacK (k t:Str):Str:=hS (maskS k 92++hS (maskS k 54++t))
def hmacS (key t:Str):Str:=hmacK (wholeS key) t
def okJ (ss:List Str) (n:Nat):Bool:=Nat.beq n ss.length && Nat.ble ss.length 1048000 && Nat.ble (Lib.join ss []).length 1099511620000
def okLen (s:Str):Bool:=Nat.ble s.length 1099511620000
def sMask:Summ where
 T:=Str
 run:=fun
  | [.c (.s (.pl (.str s))),.c (.s (.pl (.int .u8 x)))]=>cond (okLen s && decide (0 <= x /\ x < 256)) (some (maskS s x.toNat)) none
  | _=>none
 enc:=fun t=>.str t
def rMask:List AV->Option Str:=sMask.run
def sWhole:Summ where
 T:=Str
 run:=fun
  | [.c (.s (.pl (.str s)))]=>cond (okLen s) (some (wholeS s)) none
  | _=>none
 enc:=fun t=>.str t
def rWhole:List AV->Option Str:=sWhole.run
def sKeyed:Summ where
 T:=Str
 run:=fun
  | [.c (.s (.pl (.str k))),.c (.s (.dat (.strs ss) n 1))]=>cond (Nat.beq k.length 128 && okJ ss n) (some (hmacK k (Lib.join ss []))) none
  | _=>none
 enc:=fun t=>.str t
def rKeyed:List AV->Option Str:=sKeyed.run
def sWith:Summ where
 T:=Str
 run:=fun
  | [.c (.s (.pl (.str s)))]=>cond (okLen s) (some (wholeS s)) none
  | _=>none
 enc:=fun t=>.s (.clo nF138 [.str t] [])
def rWith:List AV->Option Str:=sWith.run
def sHmac:Summ where
 T:=Str
 run:=fun
  | [.c (.s (.pl (.str k))),.c (.s (.dat (.strs ss) n 1))]=>cond (okLen k && okJ ss n) (some (hmacS k (Lib.join ss []))) none
  | _=>none
 enc:=fun t=>.str t
def rHmac:List AV->Option Str:=sHmac.run
def g_HmMk:Cg:=⟨⟨gam [],[8],noE⟩,[(4,[1,5,10,11],[5])]⟩
def HmMk_s1 (v1:Int) (n5:Nat) (v10 v11:Int) (m_0:Nat) (x_0:List Int):St:={ tm:=[(1,.int .u8 v1),(5,.s (.own 0 n5 1)),(10,.int .i64 v10),(11,.int .i64 v11)],hp:=[(0,{ ty:=5,n:=m_0,row:=Row.t (.ints .u8 x_0) })],nx:=1,sz:=24 }
def HmMk_b1:Code:=bodyL (codeAt [1,1,0,1,2] (codeF fF161))
def HmMk_k1 (fu:Nat):=kAt prog g_HmMk fu [1,1,0,1,2] (codeF fF161) (kFin prog fF161)
abbrev HmMk_L1 (fu:Nat) (v1:Int) (n5:Nat) (v10 v11:Int) (m_0:Nat) (x_0:List Int):=lpA prog g_HmMk fu HmMk_b1 (HmMk_k1 fu ) fu (some (HmMk_s1 v1 n5 v10 v11 m_0 x_0))
theorem HmMk_ev (fu:Nat) (s:Str) (x:Int):afunc prog fF161 g_HmMk fu [.str s,.int .u8 x]=bif decide (List.length s <= 1099511627776) then HmMk_L1 fu x (List.length s) (↑(List.length s):Int) (0:Int) (List.length s) (List.map ofB s) else none:=by kernel_rfl
def HmMk_o1e0 (n5 m_0:Nat) (x_0:List Int):St:={ tm:=[(5,.s (.own 0 n5 1))],hp:=[(0,{ ty:=5,n:=m_0,row:=Row.t (.ints .u8 x_0) })],nx:=1,sz:=24 }
theorem HmMk_r1 {β:Type} (fu:Nat) (G:Option St->Option β) (H:Ex->Option St->Option β) (v1:Int) (n5:Nat) (v10 v11:Int) (m_0:Nat) (x_0:List Int):lpR prog g_HmMk fu HmMk_b1 G H (HmMk_s1 v1 n5 v10 v11 m_0 x_0)=bif decide (v11 < v10) then bif decide ((0:Int) <= v11 /\ v11 < (↑n5:Int)) then bif decide ((0:Int) <= v11 /\ v11 < (↑n5:Int)) then G (some (HmMk_s1 v1 n5 v10 (i64.wrap (v11+(1:Int))) m_0 (x_0.set v11.toNat (bXor .u8 (x_0.getD v11.toNat (0:Int)) v1)))) else none else none else H (Ex.exit 0) (some (HmMk_o1e0 n5 m_0 x_0)):=by kernel_rfl
theorem HmMk_c1e0 (fu:Nat) (n5 m_0:Nat) (x_0:List Int):HmMk_k1 fu  (Ex.exit 0) (HmMk_o1e0 n5 m_0 x_0)=some (AV.str (List.map b8 x_0)):=by kernel_rfl
def g_HmTx:Cg:=⟨⟨gam [],[],noE⟩,[]⟩
theorem HmTx_ev (fu:Nat) (s:List Int):afunc prog fF160 g_HmTx fu [.agg (.ints .u8 s) 64]=some (AV.str (List.map b8 (List.take 64 (List.drop 0 s)))):=by kernel_rfl
section
variable (T0:Type) (R0:List AV->Option T0) (f0a:T0->List UInt8)
end
section
variable (T0:Type) (R0:List AV->Option T0) (f0a:T0->List Int) (T1:Type) (R1:List AV->Option T1) (f1a:T1->List UInt8) (T2:Type) (R2:List AV->Option T2) (f2a:T2->List UInt8)
def g_HmWh:Cg:=⟨⟨gam [(nF103,⟨R0,fun t=>AV.agg (.ints .u8 (f0a t)) 64⟩),(nF160,⟨R1,fun t=>AV.str (f1a t)⟩),(nF132,⟨R2,fun t=>AV.str (f2a t)⟩)],[],noE⟩,[]⟩
theorem HmWh_ev (fu:Nat) (s:Str):afunc prog fF137 (g_HmWh T0 R0 f0a T1 R1 f1a T2 R2 f2a) fu [.str s]=bif decide ((128:Int) < (↑(List.length s):Int)) then (R0 [.s (.dat (.strs [s]) 1 1)]).bind fun t=>(R1 [.agg (.ints .u8 (f0a t)) 64]).bind fun t=>(R2 [.str [(0:UInt8)],.int .i64 (i64.wrap ((128:Int) - (↑(f1a t).length:Int)))]).bind fun t_1=>bif decide ((f1a t).length+(f2a t_1).length <= 9223372036854775807) then some (AV.str (f1a t++f2a t_1)) else none else (R2 [.str [(0:UInt8)],.int .i64 (i64.wrap ((128:Int) - (↑(List.length s):Int)))]).bind fun t=>bif decide (List.length s+(f2a t).length <= 9223372036854775807) then some (AV.str (s++f2a t)) else none:=by kernel_rfl
end
section
variable (T0:Type) (R0:List AV->Option T0) (f0a:T0->List UInt8) (T1:Type) (R1:List AV->Option T1) (f1a:T1->List Int) (T2:Type) (R2:List AV->Option T2) (f2a:T2->List UInt8)
def g_HmKs:Cg:=⟨⟨gam [(nF161,⟨R0,fun t=>AV.str (f0a t)⟩),(nF103,⟨R1,fun t=>AV.agg (.ints .u8 (f1a t)) 64⟩),(nF160,⟨R2,fun t=>AV.str (f2a t)⟩)],[8],noE⟩,[]⟩
theorem HmKs_ev (fu:Nat) (s:Str) (ss:List Str) (n:Nat):afunc prog fF138 (g_HmKs T0 R0 f0a T1 R1 f1a T2 R2 f2a) fu [.str s,.s (.dat (.strs ss) n 1)]=(R0 [.str s,.int .u8 (54:Int)]).bind fun t=>bif decide (1+n <= 1099511627776) then (R1 [.s (.dat (.strs ([f0a t]++ss)) (1+n) 1)]).bind fun t=>(R0 [.str s,.int .u8 (92:Int)]).bind fun t_1=>(R2 [.agg (.ints .u8 (f1a t)) 64]).bind fun t=>(R1 [.s (.dat (.strs ([f0a t_1]++[f2a t])) 2 1)]).bind fun t=>(R2 [.agg (.ints .u8 (f1a t)) 64]).bind fun t=>some (AV.str (f2a t)) else none:=by kernel_rfl
end
section
variable (T0:Type) (R0:List AV->Option T0) (f0a:T0->List UInt8) (T1:Type) (R1:List AV->Option T1) (f1a:T1->List UInt8)
def g_HmWi:Cg:=⟨⟨gam [(nF137,⟨R0,fun t=>AV.str (f0a t)⟩),(nF138,⟨R1,fun t=>AV.str (f1a t)⟩)],[],noE⟩,[]⟩
theorem HmWi_ev (fu:Nat) (s:Str):afunc prog fF105 (g_HmWi T0 R0 f0a T1 R1 f1a) fu [.str s]=(R0 [.str s]).bind fun t=>some (AV.s (.clo 138 [.str (f0a t)] [])):=by kernel_rfl
end
section
variable (T0:Type) (R0:List AV->Option T0) (f0a:T0->List UInt8) (T1:Type) (R1:List AV->Option T1) (f1a:T1->List UInt8)
def g_HmSu:Cg:=⟨⟨gam [(nF105,⟨R0,fun t=>AV.s (.clo nF138 [.str (f0a t)] [])⟩),(nF138,⟨R1,fun t=>AV.str (f1a t)⟩)],[],noE⟩,[]⟩
theorem HmSu_ev (fu:Nat) (s:Str) (ss:List Str) (n:Nat):afunc prog fF68 (g_HmSu T0 R0 f0a T1 R1 f1a) fu [.str s,.s (.dat (.strs ss) n 1)]=(R0 [.str s]).bind fun t=>(R1 [.str (f0a t),.s (.dat (.strs ss) n 1)]).bind fun t=>some (AV.str (f1a t)):=by kernel_rfl
end
section
variable (T0:Type) (R0:List AV->Option T0) (f0a:T0->List UInt8) (T1:Type) (R1:List AV->Option T1) (f1a:T1->List UInt8)
end
section
variable (T0:Type) (R0:List AV->Option T0) (f0a:T0->List UInt8) (T1:Type) (R1:List AV->Option T1) (T2:Type) (R2:List AV->Option T2) (f2a:T2->List UInt8) (T3:Type) (R3:List AV->Option T3) (f3a:T3->Bool)
def g_Aw3:Cg:=⟨⟨gam [(nF68,⟨R0,fun t=>AV.str (f0a t)⟩),(nF116,⟨R1,fun t=>AV.bool (true)⟩),(nF130,⟨R2,fun t=>AV.str (f2a t)⟩),(nF129,⟨R3,fun t=>AV.bool (f3a t)⟩)],[],noE⟩,[]⟩
theorem Aw3_ev (fu:Nat):afunc prog fF102 (g_Aw3 T0 R0 f0a T1 R1 T2 R2 f2a T3 R3 f3a) fu []=(R0 [.str [(74:UInt8),101,102,101],.s (.dat (.strs ([[(119:UInt8),104,97,116,32,100,111,32,121,97,32,119,97,110,116,32]]++[[(102:UInt8),111,114,32,110,111,116,104,105,110,103,63]])) 2 1)]).bind fun t=>(R1 []).bind fun t_1=>(R2 [.str (f0a t)]).bind fun t_2=>(R3 [.str (f2a t_2),.str [(49:UInt8),54,52,98,55,97,55,98]]).bind fun t_3=>bif f3a t_3 then some (AV.bool (decide ((↑(f0a t).length:Int)=(64:Int)))) else some (AV.bool false):=by kernel_rfl
end
abbrev gI_HmMk:Cg:=g_HmMk 
theorem gok_HmMk:CfOk prog gI_HmMk.c:=⟨gam_nil,fun _ _ h=>by cases h⟩
abbrev gI_HmTx:Cg:=g_HmTx 
theorem gok_HmTx:CfOk prog gI_HmTx.c:=⟨gam_nil,fun _ _ h=>by cases h⟩
theorem xor8 (x y:Nat) (hx:x < 256) (hy:y < 256):bXor .u8 (x:Int) (y:Int)=((x ^^^ y:Nat):Int):=by
 have:∀ x y:Fin 256,bXor .u8 (x.1:Int) (y.1:Int)=((x.1 ^^^ y.1:Nat):Int):=by
  intro x y
  unfold bXor
  have e:(BitVec.ofInt (IntKind.bits .u8) (x.1:Int) ^^^ BitVec.ofInt (IntKind.bits .u8) (y.1:Int)).toNat=x.1 ^^^ y.1:=by
   show (BitVec.ofInt 8 (x.1:Int) ^^^ BitVec.ofInt 8 (y.1:Int)).toNat=x.1 ^^^ y.1
   rw [BitVec.toNat_xor,BitVec.ofInt_natCast,BitVec.ofInt_natCast,BitVec.toNat_ofNat,BitVec.toNat_ofNat,Nat.mod_eq_of_lt x.2,Nat.mod_eq_of_lt y.2]
  rw [e,wu8n,Nat.mod_eq_of_lt]
  exact Nat.xor_lt_two_pow (n:=8) x.2 y.2
 exact this ⟨x,hx⟩ ⟨y,hy⟩
theorem tk_getD {α β:Type} (s:List α) (f g:α->β) (i:Nat) (h:i < s.length) (d:β) (e:α):((s.take i).map f++(s.drop i).map g).getD i d=g (s.getD i e):=by
 rw [List.getD_eq_getElem?_getD,List.getElem?_append_right (by simp; omega),List.length_map,List.length_take,Nat.min_eq_left (by omega),Nat.sub_self,List.drop_eq_getElem_cons h,List.map_cons,List.getElem?_cons_zero,List.getD_eq_getElem?_getD,List.getElem?_eq_getElem h]; rfl
theorem tk_set {α β:Type} (s:List α) (f g:α->β) (i:Nat) (h:i < s.length) (e:α):((s.take i).map f++(s.drop i).map g).set i (f (s.getD i e))=(s.take (i+1)).map f++(s.drop (i+1)).map g:=by
 have e0:s.getD i e=s[i]:=by rw [List.getD_eq_getElem?_getD,List.getElem?_eq_getElem h]; rfl
 rw [List.set_append_right _ _ (by simp; omega),List.length_map,List.length_take,Nat.min_eq_left (by omega),Nat.sub_self,List.drop_eq_getElem_cons h,List.map_cons,List.set_cons_zero,e0,List.take_add_one,List.getElem?_eq_getElem h,List.map_append,List.append_assoc]; rfl
def xf (x:Nat) (c:UInt8):Int:=((c.toNat ^^^ x:Nat):Int)
theorem mk_loop (s:Str) (hl:s.length <= 1099511627776) (x:Nat) (hx:x < 256) (m fu:Nat):∀ (d n i:Nat),i+d=s.length->d < n ->
  lpA prog gI_HmMk fu HmMk_b1 (HmMk_k1 fu) n (some (HmMk_s1 (x:Int) s.length (s.length:Int) (i:Int) m ((s.take i).map (xf x)++(s.drop i).map ofB)))=some (.str (maskS s x)):=by
 intro d
 induction d with
 | zero=>
  intro n i hi hn
  obtain ⟨n,rfl⟩:=Nat.exists_eq_succ_of_ne_zero (by omega:n ≠ 0)
  have e:i=s.length:=by omega
  rw [lpA_succ,HmMk_r1,decide_eq_false (by omega),cond_false,kOut_some,HmMk_c1e0,e,List.take_length,List.drop_length,List.map_nil,List.append_nil,List.map_map]; rfl
 | succ d ih=>
  intro n i hi hn
  obtain ⟨n,rfl⟩:=Nat.exists_eq_succ_of_ne_zero (by omega:n ≠ 0)
  have h:=ih n (i+1) (by omega) (by omega)
  have hc:=(s.getD i 0).toNat_lt
  rw [lpA_succ,HmMk_r1,decide_eq_true (by omega),cond_true,decide_eq_true (by omega),cond_true,cond_true,Int.toNat_natCast,tk_getD s _ _ i (by omega) _ 0]
  have hx':bXor .u8 (ofB (s.getD i 0)) (x:Int)=xf x (s.getD i 0):=xor8 _ _ hc hx
  rw [hx',tk_set s (xf x) ofB i (by omega) 0,wi64 (by omega) (by omega)]
  exact h
theorem ok_Mask:CallOk prog nF161 sMask:=by
 refine afunc_okE (g:=gI_HmMk) (fu:=fun args=>match args with | .c (.s (.pl (.str s))) :: _=>s.length+1 | _=>0) mixed gok_HmMk hF161 (by kernel_rfl) ?_
 intro args t ht
 unfold sMask at ht
 simp only at ht
 split at ht
 ·rename_i s x
  obtain ⟨h1,h2⟩:=ctrueS ht
  subst h2
  simp only [Bool.and_eq_true,decide_eq_true_eq,okLen,Nat.ble_eq] at h1
  obtain ⟨x,rfl⟩:=Int.eq_ofNat_of_zero_le h1.2.1
  refine (HmMk_ev ..).trans ?_
  rw [decide_eq_true (by omega),cond_true,Int.toNat_natCast]
  have:=mk_loop s (by omega) x (by omega) s.length (s.length+1) s.length (s.length+1) 0 (by omega) (Nat.lt_succ_self _)
  exact this
 ·cases ht
theorem ok_HText:CallOk prog nF160 sText:=by
 refine afunc_okE (g:=gI_HmTx) (fu:=fun _=>0) mixed gok_HmTx hF160 (by kernel_rfl) ?_
 intro args t ht
 unfold sText at ht
 simp only at ht
 split at ht
 ·rename_i s
  obtain ⟨h1,h2⟩:=ctrueS ht
  subst h2
  have h1:=Nat.eq_of_beq_eq_true h1
  refine (HmTx_ev ..).trans ?_
  rw [List.drop_zero,List.take_of_length_le (by omega)]; rfl
 ·cases ht
theorem hS_len (s:Str):(hS s).length=64:=by rw [hS,List.length_map,up_len,sumB_len]
theorem keyS_len (key:Str):(keyS key).length <= 128:=by
 unfold keyS
 split
 ·rw [hS_len]; decide
 ·omega
theorem wholeS_len (key:Str):(wholeS key).length=128:=by
 have:=keyS_len key
 rw [wholeS,List.length_append,List.length_replicate]; omega
section
variable (T0:Type) (R0:List AV->Option T0)
def g_AwB:Cg:=⟨⟨gam [(nF146,⟨R0,fun t=>AV.bool (true)⟩)],[],noE⟩,[]⟩
theorem AwB_ev (fu:Nat):afunc prog fF116 (g_AwB T0 R0) fu []=(R0 []).bind fun t=>some (AV.bool true):=by kernel_rfl
end
abbrev gI_AwB:Cg:=g_AwB (PUnit) rTrue
theorem gok_AwB:CfOk prog gI_AwB.c:=⟨gam_cons ok_awake02 <| gam_nil,fun _ _ h=>by cases h⟩
theorem ok_Awake02:CallOk prog nF116 sTrue:=by
 refine afunc_okE (g:=gI_AwB) (fu:=fun _=>0) mixed gok_AwB hF116 (by kernel_rfl) ?_
 intro args t ht
 unfold sTrue at ht
 simp only at ht
 split at ht
 ·cases ht
  refine (AwB_ev ..).trans ?_
  rw [show rTrue []=some () from rfl,Option.bind_some]; rfl
 ·cases ht
abbrev gI_HmWh:Cg:=g_HmWh (List Nat) rSum (fun t=>up t) (List UInt8) rText (fun t=>t) (List UInt8) rRepeat (fun t=>t)
theorem gok_HmWh:CfOk prog gI_HmWh.c:=⟨gam_cons ok_Sum <| gam_cons ok_HText <| gam_cons ok_Repeat <| gam_nil,fun _ _ h=>by cases h⟩
theorem run_Mask {s:Str} {x:Nat} (h:s.length <= 1099511620000) (hx:x < 256):rMask [.str s,.int .u8 (x:Int)]=some (maskS s x):=by
 have e:(okLen s && decide (0 <= (x:Int) /\ (x:Int) < 256))=true:=by rw [decide_eq_true (by omega),okLen,Nat.ble_eq_true_of_le h]; rfl
 simp only [rMask,sMask,e,cond_true,Int.toNat_natCast]
theorem join_flat (ss:List Str):Lib.join ss []=ss.flatten:=by
 cases ss with
 | nil=>rfl
 | cons x r=>
  rw [Lib.join_cons,Lib.joinTail]
  simp
theorem join_app (a:Str) (ss:List Str):Lib.join ([a]++ss) []=a++Lib.join ss []:=by rw [join_flat,join_flat]; rfl
theorem okSum_of {ss:List Str} {n:Nat} (h1:n=ss.length) (h2:ss.length <= 1048576) (h3:(Lib.join ss []).length <= 1099511627776):okSum ss n=true:=by
 subst h1
 rw [okSum,Nat.beq_refl,Nat.ble_eq_true_of_le h2,Nat.ble_eq_true_of_le h3]; rfl
theorem okJ_ok {ss:List Str} {n:Nat} (h:okJ ss n=true):n=ss.length /\ ss.length <= 1048000 /\ (Lib.join ss []).length <= 1099511620000:=by
 simp only [okJ,Bool.and_eq_true,Nat.ble_eq] at h
 exact ⟨Nat.eq_of_beq_eq_true h.1.1,h.1.2,h.2⟩
theorem maskS_len (s:Str) (x:Nat):(maskS s x).length=s.length:=List.length_map _
theorem ok_Whole:CallOk prog nF137 sWhole:=by
 refine afunc_okE (g:=gI_HmWh) (fu:=fun _=>0) mixed gok_HmWh hF137 (by kernel_rfl) ?_
 intro args t ht
 unfold sWhole at ht
 simp only at ht
 split at ht
 ·rename_i s
  obtain ⟨h1,h2⟩:=ctrueS ht
  subst h2
  rw [okLen,Nat.ble_eq] at h1
  refine (HmWh_ev ..).trans ?_
  by_cases h:128 < s.length
  ·have e:keyS s=hS s:=if_pos h
   have l:=hS_len s
   have w:i64.wrap ((128:Int) - ((hS s).length:Int))=((128 - (hS s).length:Nat):Int):=by rw [wi64 (by omega) (by omega)]; omega
   rw [decide_eq_true (by omega),cond_true,run_Sum (ss:=[s]) (n:=1) (okSum_of rfl (by simp) (by rw [Lib.join_one]; omega)),Option.bind_some,Lib.join_one,run_Text (by rw [up_len,sumB_len]),Option.bind_some]
   show (rRepeat [AV.str [0],AV.int .i64 (i64.wrap ((128:Int) - ((hS s).length:Int)))]).bind (fun t=>bif decide ((hS s).length+t.length <= _) then some (AV.str (hS s++t)) else none)=_
   rw [w,run_Repeat _ _ (by omega) (Nat.le_trans (show 1*(128 - (hS s).length) <= 128 by omega) (by decide)),Option.bind_some,rep_len,decide_eq_true (by omega),cond_true,repeatL0]
   show some (AV.str (hS s++List.replicate (128 - (hS s).length) 0))=some (.str (wholeS s))
   rw [wholeS,e]
  ·have e:keyS s=s:=if_neg h
   have w:i64.wrap ((128:Int) - (s.length:Int))=((128 - s.length:Nat):Int):=by rw [wi64 (by omega) (by omega)]; omega
   rw [decide_eq_false (by omega),cond_false,w,run_Repeat _ _ (by omega) (Nat.le_trans (show 1*(128 - s.length) <= 128 by omega) (by decide)),Option.bind_some,rep_len,decide_eq_true (by omega),cond_true,repeatL0]
   show _=some (AV.str (wholeS s))
   rw [wholeS,e]
 ·cases ht
abbrev gI_HmKs:Cg:=g_HmKs (List UInt8) rMask (fun t=>t) (List Nat) rSum (fun t=>up t) (List UInt8) rText (fun t=>t)
theorem gok_HmKs:CfOk prog gI_HmKs.c:=⟨gam_cons ok_Mask <| gam_cons ok_Sum <| gam_cons ok_HText <| gam_nil,fun _ _ h=>by cases h⟩
theorem ok_Keyed:CallOk prog nF138 sKeyed:=by
 refine afunc_okE (g:=gI_HmKs) (fu:=fun _=>0) mixed gok_HmKs hF138 (by kernel_rfl) ?_
 intro args t ht
 unfold sKeyed at ht
 simp only at ht
 split at ht
 ·rename_i k ss n
  obtain ⟨h1,h2⟩:=ctrueS ht
  subst h2
  rw [Bool.and_eq_true] at h1
  have hk:=Nat.eq_of_beq_eq_true h1.1
  obtain ⟨e,l1,l2⟩:=okJ_ok h1.2
  have m1:=maskS_len k 54
  have m2:=maskS_len k 92
  have j1:=join_app (maskS k 54) ss
  refine (HmKs_ev ..).trans ?_
  have r1:rMask [.str k,.int .u8 54]=some (maskS k 54):=run_Mask (x:=54) (by omega) (by decide)
  have r2:rMask [.str k,.int .u8 92]=some (maskS k 92):=run_Mask (x:=92) (by omega) (by decide)
  rw [r1,Option.bind_some,decide_eq_true (by omega),cond_true,run_Sum (ss:=[maskS k 54]++ss) (n:=1+n) (okSum_of (by rw [List.length_append,List.length_singleton,e]) (by rw [List.length_append,List.length_singleton]; omega) (by rw [j1,List.length_append]; omega)),Option.bind_some,r2,Option.bind_some,j1,
   run_Text (by rw [up_len,sumB_len]),Option.bind_some]
  show (rSum [AV.s (.dat (.strs ([maskS k 92]++[hS (maskS k 54++Lib.join ss [])])) 2 1)]).bind _=_
  have j2:=join_app (maskS k 92) [hS (maskS k 54++Lib.join ss [])]
  rw [Lib.join_one] at j2
  have l3:=hS_len (maskS k 54++Lib.join ss [])
  rw [run_Sum (ss:=[maskS k 92]++[hS (maskS k 54++Lib.join ss [])]) (n:=2) (okSum_of rfl (by simp) (by rw [j2,List.length_append]; omega)),Option.bind_some,j2,run_Text (by rw [up_len,sumB_len]),Option.bind_some]; rfl
 ·cases ht
theorem run_Whole {s:Str} (h:okLen s=true):rWhole [.str s]=some (wholeS s):=by
 simp only [rWhole,sWhole,h,cond_true]
theorem run_Keyed {k:Str} {ss:List Str} {n:Nat} (hk:k.length=128) (h:okJ ss n=true):rKeyed [.str k,.s (.dat (.strs ss) n 1)]=some (hmacK k (Lib.join ss [])):=by
 have e:(Nat.beq k.length 128 && okJ ss n)=true:=by rw [hk,h]; rfl
 simp only [rKeyed,sKeyed,e,cond_true]
theorem run_With {s:Str} (h:okLen s=true):rWith [.str s]=some (wholeS s):=by
 simp only [rWith,sWith,h,cond_true]
theorem run_Hmac {k:Str} {ss:List Str} {n:Nat} (hk:okLen k=true) (h:okJ ss n=true):rHmac [.str k,.s (.dat (.strs ss) n 1)]=some (hmacS k (Lib.join ss [])):=by
 have e:(okLen k && okJ ss n)=true:=by rw [hk,h]; rfl
 simp only [rHmac,sHmac,e,cond_true]
abbrev gI_HmWi:Cg:=g_HmWi (List UInt8) rWhole (fun t=>t) (List UInt8) rKeyed (fun t=>t)
theorem gok_HmWi:CfOk prog gI_HmWi.c:=⟨gam_cons ok_Whole <| gam_cons ok_Keyed <| gam_nil,fun _ _ h=>by cases h⟩
theorem ok_With:CallOk prog nF105 sWith:=by
 refine afunc_okE (g:=gI_HmWi) (fu:=fun _=>0) mixed gok_HmWi hF105 (by kernel_rfl) ?_
 intro args t ht
 unfold sWith at ht
 simp only at ht
 split at ht
 ·rename_i s
  obtain ⟨h1,h2⟩:=ctrueS ht
  subst h2
  refine (HmWi_ev ..).trans ?_
  rw [run_Whole h1,Option.bind_some]; rfl
 ·cases ht
abbrev gI_HmSu:Cg:=g_HmSu (List UInt8) rWith (fun t=>t) (List UInt8) rKeyed (fun t=>t)
theorem gok_HmSu:CfOk prog gI_HmSu.c:=⟨gam_cons ok_With <| gam_cons ok_Keyed <| gam_nil,fun _ _ h=>by cases h⟩
theorem ok_Hmac:CallOk prog nF68 sHmac:=by
 refine afunc_okE (g:=gI_HmSu) (fu:=fun _=>0) mixed gok_HmSu hF68 (by kernel_rfl) ?_
 intro args t ht
 unfold sHmac at ht
 simp only at ht
 split at ht
 ·rename_i k ss n
  obtain ⟨h1,h2⟩:=ctrueS ht
  subst h2
  rw [Bool.and_eq_true] at h1
  refine (HmSu_ev ..).trans ?_
  rw [run_With h1.1,Option.bind_some,run_Keyed (wholeS_len k) h1.2,Option.bind_some]; rfl
 ·cases ht
theorem hmacK_len (k t:Str):(hmacK k t).length=64:=hS_len _
theorem okLen_of {s:Str} (h:s.length <= 1099511620000):okLen s=true:=Nat.ble_eq_true_of_le h
theorem okLen_ok {s:Str} (h:okLen s=true):s.length <= 1099511620000:=Nat.le_of_ble_eq_true h
abbrev gI_Aw3:Cg:=g_Aw3 (List UInt8) rHmac (fun t=>t) (PUnit) rTrue (List UInt8) rRefHex (fun t=>t) (Bool) rHasPrefix (fun t=>t)
theorem gok_Aw3:CfOk prog gI_Aw3.c:=⟨gam_cons ok_Hmac <| gam_cons ok_Awake02 <| gam_cons ok_RefHex <| gam_cons ok_HasPrefix <| gam_nil,fun _ _ h=>by cases h⟩
theorem ok_awake03:CallOk prog nF102 sTrue:=by
 refine afunc_okE (g:=gI_Aw3) (fu:=fun _=>0) mixed gok_Aw3 hF102 (by kernel_rfl) ?_
 intro args t ht
 unfold sTrue at ht
 simp only at ht
 split at ht
 ·cases ht
  refine (Aw3_ev ..).trans ?_
  have hl:(hmacS [74,101,102,101] ([119,104,97,116,32,100,111,32,121,97,32,119,97,110,116,32]++[102,111,114,32,110,111,116,104,105,110,103,63])).length=64:=hmacK_len _ _
  have hp:Lib.hasPrefix (hexS (hmacS [74,101,102,101] ([119,104,97,116,32,100,111,32,121,97,32,119,97,110,116,32]++[102,111,114,32,110,111,116,104,105,110,103,63]))) [49,54,52,98,55,97,55,98]=true:=by decide +kernel
  have j:=join_app [119,104,97,116,32,100,111,32,121,97,32,119,97,110,116,32] [[102,111,114,32,110,111,116,104,105,110,103,63]]
  rw [Lib.join_one] at j
  rw [run_Hmac (by decide) (by decide),Option.bind_some,show rTrue []=some () from rfl,Option.bind_some,j]
  generalize hmacS [74,101,102,101] ([119,104,97,116,32,100,111,32,121,97,32,119,97,110,116,32]++[102,111,114,32,110,111,116,104,105,110,103,63])=x at hl hp ⊢
  rw [run_RefHex (by omega),Option.bind_some]
  show (rHasPrefix [AV.str (hexS x),AV.str [49,54,52,98,55,97,55,98]]).bind _=_
  rw [show rHasPrefix [AV.str (hexS x),AV.str [49,54,52,98,55,97,55,98]]=some (Lib.hasPrefix (hexS x) [49,54,52,98,55,97,55,98]) from rfl,Option.bind_some,hp,cond_true,decide_eq_true (by omega)]; rfl
 ·cases ht
end
end Go.Eng
