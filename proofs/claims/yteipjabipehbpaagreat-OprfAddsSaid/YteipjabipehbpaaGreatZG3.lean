import Derived.Test.YteipjabipehbpaaGreatZG2
namespace Go.Eng
noncomputable section
open Go Go.Proofs
set_option linter.all false
def sScWide:Summ where
 T:=Nat
 run:=fun
  | [.c (.s (.pl (.str s)))]=>cond (Nat.ble s.length 64) (some (vS s%LN)) none
  | _=>none
 enc:=fun t=>.tup [.s (.pl (.agg (.ints .u64 (lim 8 t)) 8)),.s (.pl (.int .i64 0))]
def rScWide:List AV->Option Nat:=sScWide.run
section
variable (T0:Type) (R0:List AV->Option T0) (f0a:T0->List Int) (f0b:T0->Int) (T1:Type) (R1:List AV->Option T1) (f1a:T1->List Int)
def g_CSW:Cg:=⟨⟨gam [(nF83,⟨R0,fun t=>AV.tup [.s (.pl (.agg (.ints .u64 (f0a t)) 8)),.s (.pl (.int .i64 (f0b t)))]⟩),(nF50,⟨R1,fun t=>AV.agg (.ints .u64 (f1a t)) 8⟩)],[],noE⟩,[]⟩
theorem CSW_ev (fu:Nat) (s:Str):afunc prog fF34 (g_CSW T0 R0 f0a f0b T1 R1 f1a) fu [.str s]=(R0 [.str s]).bind fun t=>bif !decide (f0b t=(0:Int)) then some (AV.tup [.s (.pl (.agg (.ints .u64 [(0:Int),0,0,0,0,0,0,0]) 8)),.s (.pl (.int .i64 (f0b t)))]) else (R1 [.agg (.ints .u64 (f0a t)) 8]).bind fun t=>some (AV.tup [.s (.pl (.agg (.ints .u64 (f1a t)) 8)),.s (.pl (.int .i64 (0:Int)))]):=by kernel_rfl
end
set_option maxRecDepth 4000
abbrev gI_CSW:Cg:=g_CSW (Nat × Int) rParse (fun t=>lim 8 t.fst) (fun t=>t.snd) (Nat) rRedL (fun t=>lim 8 t)
theorem gok_CSW:CfOk prog gI_CSW.c:=⟨gam_cons ok_Parse <| gam_cons ok_RedL <| gam_nil,fun _ _ h=>by cases h⟩
theorem ok_ScWide:CallOk prog nF34 sScWide:=by
 refine afunc_okE (g:=gI_CSW) (fu:=fun _=>0) mixed gok_CSW hF34 (by kernel_rfl) ?_
 intro args t ht
 unfold sScWide at ht
 simp only at ht
 split at ht
 ·rename_i s
  obtain ⟨h1,h2⟩:=ctrueS ht
  subst h2
  have hl:=Nat.le_of_ble_eq_true h1
  have p:=run_Parse (s:=s) (by omega)
  have hb:Nat.blt 64 s.length=false:=by
   rw [Bool.eq_false_iff]; intro h
   have:=Nat.le_of_ble_eq_true h
   omega
  rw [hb,cond_false] at p
  have hv:vS s < M512:=by
   have:=vS_lt s
   refine Nat.lt_of_lt_of_le this ?_
   rw [show M512=256 ^ 64 by decide +kernel]
   exact Nat.pow_le_pow_right (by decide) hl
  have r:=run_RedL (ok8_lim (vS s))
  rw [valM hv] at r
  simp only [W8] at r
  refine (CSW_ev ..).trans ?_
  rw [p,Option.bind_some]
  show cond (!decide ((0:Int)=0)) _ _=_
  rw [decide_eq_true rfl,Bool.not_true,cond_false,r,Option.bind_some]
  rfl
 ·cases ht
theorem run_ScWide {s:Str} (h:s.length <= 64):rScWide [.str s]=some (vS s%LN):=by
 show cond (Nat.ble s.length 64) _ _=_
 rw [Nat.ble_eq_true_of_le h,cond_true]
end
end Go.Eng
