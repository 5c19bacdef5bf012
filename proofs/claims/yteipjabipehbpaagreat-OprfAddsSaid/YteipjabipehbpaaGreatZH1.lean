import Derived.Test.YteipjabipehbpaaGreatZS2
namespace Go.Eng
noncomputable section
open Go Go.Proofs
set_option linter.all false
def hS (s:Str):Str:=(up (sumB s)).map b8
def maskS (s:Str) (x:Nat):Str:=s.map fun c=>b8 ((c.toNat ^^^ x:Nat):Int)
def keyS (key:Str):Str:=if 128 < key.length then hS key else key
def wholeS (key:Str):Str:=keyS key++List.replicate (128 - (keyS key).length) 0
def hmacK (k t:Str):Str:=hS (maskS k 92++hS (maskS k 54++t))
def hmacS (key t:Str):Str:=hmacK (wholeS key) t
def okJ (ss:List Str) (n:Nat):Bool:=Nat.beq n ss.length && Nat.ble ss.length 1048000 && Nat.ble (Lib.join ss []).length 1099511620000
def okLen (s:Str):Bool:=Nat.ble s.length 1099511620000
section
variable (T0:Type) (R0:List AV->Option T0) (f0a:T0->List UInt8)
end
section
variable (T0:Type) (R0:List AV->Option T0) (f0a:T0->List Int) (T1:Type) (R1:List AV->Option T1) (f1a:T1->List UInt8) (T2:Type) (R2:List AV->Option T2) (f2a:T2->List UInt8)
end
section
variable (T0:Type) (R0:List AV->Option T0) (f0a:T0->List UInt8) (T1:Type) (R1:List AV->Option T1) (f1a:T1->List Int) (T2:Type) (R2:List AV->Option T2) (f2a:T2->List UInt8)
end
section
variable (T0:Type) (R0:List AV->Option T0) (f0a:T0->List UInt8) (T1:Type) (R1:List AV->Option T1) (f1a:T1->List UInt8)
end
section
variable (T0:Type) (R0:List AV->Option T0) (f0a:T0->List UInt8) (T1:Type) (R1:List AV->Option T1) (f1a:T1->List UInt8)
end
section
variable (T0:Type) (R0:List AV->Option T0) (f0a:T0->List UInt8) (T1:Type) (R1:List AV->Option T1) (f1a:T1->List UInt8)
end
section
variable (T0:Type) (R0:List AV->Option T0) (f0a:T0->List UInt8) (T1:Type) (R1:List AV->Option T1) (T2:Type) (R2:List AV->Option T2) (f2a:T2->List UInt8) (T3:Type) (R3:List AV->Option T3) (f3a:T3->Bool)
end
theorem xor8 (x y:Nat) (hx:x < 256) (hy:y < 256):bXor .u8 (x:Int) (y:Int)=((x ^^^ y:Nat):Int):=by
 have:∀ x y:Fin 256,bXor .u8 (x.1:Int) (y.1:Int)=((x.1 ^^^ y.1:Nat):Int):=by
  intro x y
  unfold bXor
  have e:(BitVec.ofInt (IntKind.bits .u8) (x.1:Int) ^^^ BitVec.ofInt (IntKind.bits .u8) (y.1:Int)).toNat=x.1 ^^^ y.1:=by
   show (BitVec.ofInt 8 (x.1:Int) ^^^ BitVec.ofInt 8 (y.1:Int)).toNat=x.1 ^^^ y.1
   rw [BitVec.toNat_xor,BitVec.ofInt_natCast,BitVec.ofInt_natCast,BitVec.toNat_ofNat,BitVec.toNat_ofNat,Nat.mod_eq_of_lt x.2,Nat.mod_eq_of_lt y.2]
  rw [e,wu8n,Nat.mod_eq_of_lt]
  exact Nat.xor_lt_two_pow (n:=8) x.2 y.2
 exact this ⟨x,hx⟩ ⟨y,hy⟩
theorem hS_len (s:Str):(hS s).length=64:=by rw [hS,List.length_map,up_len,sumB_len]
section
variable (T0:Type) (R0:List AV->Option T0)
def g_AwB:Cg:=⟨⟨gam [(nF146,⟨R0,fun t=>AV.bool (true)⟩)],[],noE⟩,[]⟩
theorem AwB_ev (fu:Nat):afunc prog fF116 (g_AwB T0 R0) fu []=(R0 []).bind fun t=>some (AV.bool true):=by kernel_rfl
end
abbrev gI_AwB:Cg:=g_AwB (PUnit) rTrue
theorem gok_AwB:CfOk prog gI_AwB.c:=⟨gam_cons ok_awake02 <| gam_nil,fun _ _ h=>by cases h⟩
theorem ok_Awake02:CallOk prog nF116 sTrue:=by
 refine afunc_okE (g:=gI_AwB) (fu:=fun _=>0) mixed gok_AwB hF116 (by kernel_rfl) ?_
 intro args t ht
 unfold sTrue at ht
 simp only at ht
 split at ht
 ·cases ht
  refine (AwB_ev ..).trans ?_
  rw [show rTrue []=some () from rfl,Option.bind_some]; rfl
 ·cases ht
theorem join_flat (ss:List Str):Lib.join ss []=ss.flatten:=by
 cases ss with
 | nil=>rfl
 | cons x r=>
  rw [Lib.join_cons,Lib.joinTail]
  simp
theorem okSum_of {ss:List Str} {n:Nat} (h1:n=ss.length) (h2:ss.length <= 1048576) (h3:(Lib.join ss []).length <= 1099511627776):okSum ss n=true:=by
 subst h1
 rw [okSum,Nat.beq_refl,Nat.ble_eq_true_of_le h2,Nat.ble_eq_true_of_le h3]; rfl
theorem okJ_ok {ss:List Str} {n:Nat} (h:okJ ss n=true):n=ss.length /\ ss.length <= 1048000 /\ (Lib.join ss []).length <= 1099511620000:=by
 simp only [okJ,Bool.and_eq_true,Nat.ble_eq] at h
 exact ⟨Nat.eq_of_beq_eq_true h.1.1,h.1.2,h.2⟩
theorem okLen_of {s:Str} (h:s.length <= 1099511620000):okLen s=true:=Nat.ble_eq_true_of_le h
theorem okLen_ok {s:Str} (h:okLen s=true):s.length <= 1099511620000:=Nat.le_of_ble_eq_true h
end
end Go.Eng
