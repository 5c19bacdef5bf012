import Derived.Test.YtdcaobkcdgojgaaZS2
namespace Go.Eng
noncomputable section
open Go Go.Proofs
set_option linter.all false
def hS (s:Str):Str:=(up (sumB s)).map b8
theorem hS_len (s:Str):(hS s).length=64:=by rw [hS,List.length_map,up_len,sumB_len]
section
variable (T0:Type) (R0:List AV->Option T0)
def g_AwB:Cg:=⟨⟨gam [(nF17,⟨R0,fun t=>AV.bool (true)⟩)],[],noE⟩,[]⟩
theorem AwB_ev (fu:Nat):afunc prog fF11 (g_AwB T0 R0) fu []=(R0 []).bind fun t=>some (AV.bool true):=by kernel_rfl
end
abbrev gI_AwB:Cg:=g_AwB (PUnit) rTrue
theorem gok_AwB:CfOk prog gI_AwB.c:=⟨gam_cons ok_awake02 <| gam_nil,fun _ _ h=>by cases h⟩
theorem ok_Awake02:CallOk prog nF11 sTrue:=by
 refine afunc_okE (g:=gI_AwB) (fu:=fun _=>0) mixed gok_AwB hF11 (by kernel_rfl) ?_
 intro args t ht
 unfold sTrue at ht
 simp only at ht
 split at ht
 ·cases ht
  refine (AwB_ev ..).trans ?_
  rw [show rTrue []=some () from rfl,Option.bind_some]; rfl
 ·cases ht
theorem okSum_of {ss:List Str} {n:Nat} (h1:n=ss.length) (h2:ss.length <= 1048576) (h3:(Lib.join ss []).length <= 1099511627776):okSum ss n=true:=by
 subst h1
 rw [okSum,Nat.beq_refl,Nat.ble_eq_true_of_le h2,Nat.ble_eq_true_of_le h3]; rfl
end
end Go.Eng
