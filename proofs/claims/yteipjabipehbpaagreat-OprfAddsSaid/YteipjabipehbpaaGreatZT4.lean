import Derived.Test.YteipjabipehbpaaGreatZT3
namespace Go.Eng
noncomputable section
open Go Go.Proofs
set_option linter.all false
section
variable (T0:Type) (R0:List AV->Option T0) (f0a:T0->List Int)
def g_RMh:Cg:=⟨⟨gam [(nF8,⟨R0,fun t=>AV.agg (.ints .u64 (f0a t)) 20⟩)],[],noE⟩,[]⟩
theorem RMh_ev (fu:Nat) (s:Str):afunc prog fF170 (g_RMh T0 R0 f0a) fu [.str s]=bif decide (List.length s <= 1099511627776) then bif Nat.ble 32 (List.length s) then (R0 [.agg (.ints .u8 (List.take 32 (List.drop 0 (List.map ofB s)))) 32]).bind fun t=>some (AV.agg (.ints .u64 (f0a t)) 20) else none else none:=by kernel_rfl
end
section
variable (T0:Type) (R0:List AV->Option T0) (f0a:T0->List Int) (T1:Type) (R1:List AV->Option T1) (f1a:T1->List Int) (T2:Type) (R2:List AV->Option T2) (f2a:T2->List Int)
def g_RMp:Cg:=⟨⟨gam [(nF52,⟨R0,fun t=>AV.agg (.ints .u64 (f0a t)) 20⟩),(nF170,⟨R1,fun t=>AV.agg (.ints .u64 (f1a t)) 20⟩),(nF16,⟨R2,fun t=>AV.agg (.ints .u64 (f2a t)) 20⟩)],[],noE⟩,[]⟩
theorem RMp_ev (fu:Nat) (s:Str):afunc prog fF151 (g_RMp T0 R0 f0a T1 R1 f1a T2 R2 f2a) fu [.str s]=bif !decide ((↑(List.length s):Int)=(64:Int)) then (R0 []).bind fun t=>some (AV.tup [.s (.pl (.agg (.ints .u64 (f0a t)) 20)),.s (.pl (.int .i64 (4:Int)))]) else bif decide ((0:Int) <= (0:Int) /\ (0:Int) <= (32:Int) /\ (32:Int) <= (↑(List.length s):Int)) then (R1 [.str (sl s (0:Int) (32:Int))]).bind fun t=>bif decide ((0:Int) <= (32:Int) /\ (32:Int) <= (↑(List.length s):Int) /\ (↑(List.length s):Int) <= (↑(List.length s):Int)) then (R1 [.str (sl s (32:Int) (↑(List.length s):Int))]).bind fun t_1=>(R2 [.agg (.ints .u64 (f1a t)) 20,.agg (.ints .u64 (f1a t_1)) 20]).bind fun t=>some (AV.tup [.s (.pl (.agg (.ints .u64 (f2a t)) 20)),.s (.pl (.int .i64 (0:Int)))]) else none else none:=by kernel_rfl
end
section
variable (T0:Type) (R0:List AV->Option T0)
def g_CAW7:Cg:=⟨⟨gam [(nF149,⟨R0,fun t=>AV.bool (true)⟩)],[],noE⟩,[]⟩
theorem CAW7_ev (fu:Nat):afunc prog fF120 (g_CAW7 T0 R0) fu []=(R0 []).bind fun t=>some (AV.bool true):=by kernel_rfl
end
section
variable (T0:Type) (R0:List AV->Option T0) (T1:Type) (R1:List AV->Option T1) (f1a:T1->List Int) (T2:Type) (R2:List AV->Option T2) (f2a:T2->List Int) (T3:Type) (R3:List AV->Option T3) (f3a:T3->List Int) (T4:Type) (R4:List AV->Option T4) (f4a:T4->Bool)
def g_R8w:Cg:=⟨⟨gam [(nF120,⟨R0,fun t=>AV.bool (true)⟩),(nF22,⟨R1,fun t=>AV.agg (.ints .u64 (f1a t)) 20⟩),(nF13,⟨R2,fun t=>AV.agg (.ints .u8 (f2a t)) 32⟩),(nF52,⟨R3,fun t=>AV.agg (.ints .u64 (f3a t)) 20⟩),(nF11,⟨R4,fun t=>AV.bool (f4a t)⟩)],[],noE⟩,[]⟩
theorem R8w_ev (fu:Nat):afunc prog fF77 (g_R8w T0 R0 T1 R1 f1a T2 R2 f2a T3 R3 f3a T4 R4 f4a) fu []=(R0 []).bind fun t=>(R1 []).bind fun t=>(R2 [.agg (.ints .u64 (f1a t)) 20]).bind fun t=>(R3 []).bind fun t_1=>(R2 [.agg (.ints .u64 (f3a t_1)) 20]).bind fun t_2=>bif decide (f2a t_2=[(0:Int),0,0,0,0,0,0,0,0,0,0,0,0,0,0,0,0,0,0,0,0,0,0,0,0,0,0,0,0,0,0,0]) then bif decide ((f2a t).getD 0 (0:Int)=(226:Int)) then bif decide ((f2a t).getD 1 (0:Int)=(242:Int)) then bif decide ((f2a t).getD 2 (0:Int)=(174:Int)) then bif decide ((f2a t).getD 3 (0:Int)=(10:Int)) then (R1 []).bind fun t=>(R4 [.agg (.ints .u64 (f1a t)) 20]).bind fun t=>some (AV.bool !f4a t) else some (AV.bool false) else some (AV.bool false) else some (AV.bool false) else some (AV.bool false) else some (AV.bool false):=by kernel_rfl
end
set_option maxRecDepth 4000
abbrev gI_RMh:Cg:=g_RMh (Pt) rEHalf (fun t=>[↑t.x.a,↑t.x.b,↑t.x.c,↑t.x.d,↑t.x.e,↑t.y.a,↑t.y.b,↑t.y.c,↑t.y.d,↑t.y.e,↑t.z.a,↑t.z.b,↑t.z.c,↑t.z.d,↑t.z.e,↑t.t.a,↑t.t.b,↑t.t.c,↑t.t.d,↑t.t.e])
theorem gok_RMh:CfOk prog gI_RMh.c:=⟨gam_cons ok_EHalf <| gam_nil,fun _ _ h=>by cases h⟩
theorem ok_Map1:CallOk prog nF170 sMap1:=by
 refine afunc_okE (g:=gI_RMh) (fu:=fun _=>0) mixed gok_RMh hF170 (by kernel_rfl) ?_
 intro args t ht
 unfold sMap1 at ht
 simp only at ht
 split at ht
 ·rename_i s
  obtain ⟨h1,h2⟩:=ctrueS ht
  have hl:=Nat.eq_of_beq_eq_true h1
  subst h2
  have ho:ok32 (s.map ofB)=true:=by rw [ok32,List.length_map,hl,okB_map]; rfl
  refine (RMh_ev ..).trans ?_
  refine cstep (decide_eq_true (by omega)) ?_
  refine cstep (by rw [Nat.ble_eq]; omega) ?_
  rw [List.drop_zero,List.take_of_length_le (by rw [List.length_map]; omega)]
  refine bstep (run_EHalf ho) ?_
  rfl
 ·cases ht
theorem run_Map1 {s:Str} (h:s.length=32):rMap1 [.str s]=some (halfF (looF (s.map ofB))):=by
 show cond (Nat.beq s.length 32) (some (halfF (looF (s.map ofB)))) none=_
 rw [h]; rfl
theorem pOk_half (a:List Int):pOk (halfF (looF a)):=half_okF (looF_ok a)
abbrev gI_RMp:Cg:=g_RMp (Pt) rNeut (fun t=>[↑t.x.a,↑t.x.b,↑t.x.c,↑t.x.d,↑t.x.e,↑t.y.a,↑t.y.b,↑t.y.c,↑t.y.d,↑t.y.e,↑t.z.a,↑t.z.b,↑t.z.c,↑t.z.d,↑t.z.e,↑t.t.a,↑t.t.b,↑t.t.c,↑t.t.d,↑t.t.e]) (Pt) rMap1 (fun t=>[↑t.x.a,↑t.x.b,↑t.x.c,↑t.x.d,↑t.x.e,↑t.y.a,↑t.y.b,↑t.y.c,↑t.y.d,↑t.y.e,↑t.z.a,↑t.z.b,↑t.z.c,↑t.z.d,↑t.z.e,↑t.t.a,↑t.t.b,↑t.t.c,↑t.t.d,↑t.t.e]) (Pt) rPAdd (fun t=>[↑t.x.a,↑t.x.b,↑t.x.c,↑t.x.d,↑t.x.e,↑t.y.a,↑t.y.b,↑t.y.c,↑t.y.d,↑t.y.e,↑t.z.a,↑t.z.b,↑t.z.c,↑t.z.d,↑t.z.e,↑t.t.a,↑t.t.b,↑t.t.c,↑t.t.d,↑t.t.e])
theorem gok_RMp:CfOk prog gI_RMp.c:=⟨gam_cons ok_EId <| gam_cons ok_Map1 <| gam_cons ok_EAdd <| gam_nil,fun _ _ h=>by cases h⟩
theorem ok_Map:CallOk prog nF151 sMap:=by
 refine afunc_okE (g:=gI_RMp) (fu:=fun _=>0) mixed gok_RMp hF151 (by kernel_rfl) ?_
 intro args t ht
 unfold sMap at ht
 simp only at ht
 split at ht
 ·rename_i s
  cases ht
  refine (RMp_ev ..).trans ?_
  show _=some (ePE (mapF s))
  have em:mapF s=cond (Nat.beq s.length 64) (addP (halfF (looF ((s.take 32).map ofB))) (halfF (looF ((s.drop 32).map ofB))) d2F,0) (neutP,4):=rfl
  by_cases h:s.length=64
  ·have e1:sl s (0:Int) (32:Int)=s.take 32:=rfl
   have e2:sl s (32:Int) ((s.length:Nat):Int)=s.drop 32:=by
    show List.take ((s.length:Int) - 32).toNat (List.drop 32 s)=_
    exact List.take_of_length_le (by rw [List.length_drop]; omega)
   have r1:=run_Map1 (s:=s.take 32) (by rw [List.length_take]; omega)
   have r2:=run_Map1 (s:=s.drop 32) (by rw [List.length_drop]; omega)
   have r3:=run_PAdd (pOk_half ((s.take 32).map ofB)) (pOk_half ((s.drop 32).map ofB))
   rw [h,Nat.beq_refl,cond_true] at em
   rw [em]
   clear em
   generalize halfF (looF ((s.take 32).map ofB))=H1 at *
   generalize halfF (looF ((s.drop 32).map ofB))=H2 at *
   rw [decide_eq_true (by omega),Bool.not_true,cond_false,e1,e2]
   refine cstep (decide_eq_true (by omega)) ?_
   refine bstep r1 ?_
   refine cstep (decide_eq_true (by omega)) ?_
   refine bstep r2 ?_
   refine bstep r3 ?_
   rfl
  ·have hb:Nat.beq s.length 64=false:=by
    cases e:Nat.beq s.length 64
    ·rfl
    ·exact absurd (Nat.eq_of_beq_eq_true e) h
   rw [hb,cond_false] at em
   rw [em]
   have o:=run_Neut
   generalize neutP=Np at *
   rw [decide_eq_false (by omega),Bool.not_false,cond_true]
   refine bstep o ?_
   rfl
 ·cases ht
theorem run_Map (s:Str):rMap [.str s]=some (mapF s):=rfl
abbrev bbN:Nat:=53453403443306840533278073560698739391446669128918427283046925944918568268514
theorem base_byF:Nat.beq (fv (bytesF baseP)%P25) bbN=true:=by decide +kernel
theorem base_by:rEBytes [eP baseP]=some (lo 32 bbN):=by rw [run_EBytes base_ok,Nat.eq_of_beq_eq_true base_byF]
theorem neut_byF:Nat.beq (fv (bytesF neutP)%P25) 0=true:=by decide +kernel
theorem neut_by:rEBytes [eP neutP]=some (lo 32 0):=by rw [run_EBytes neut_ok,Nat.eq_of_beq_eq_true neut_byF]
theorem base_some:samE baseP neutP=false:=by decide +kernel
abbrev gI_CAW7:Cg:=g_CAW7 (PUnit) rTrue
theorem gok_CAW7:CfOk prog gI_CAW7.c:=⟨gam_cons ok_awake07 <| gam_nil,fun _ _ h=>by cases h⟩
theorem ok_Awake07:CallOk prog nF120 sTrue:=by
 refine afunc_okE (g:=gI_CAW7) (fu:=fun _=>0) mixed gok_CAW7 hF120 (by kernel_rfl) ?_
 intro args t ht
 unfold sTrue at ht
 simp only at ht
 split at ht
 ·exact CAW7_ev ..
 ·cases ht
abbrev gI_R8w:Cg:=g_R8w (PUnit) rTrue (Pt) rBase (fun t=>[↑t.x.a,↑t.x.b,↑t.x.c,↑t.x.d,↑t.x.e,↑t.y.a,↑t.y.b,↑t.y.c,↑t.y.d,↑t.y.e,↑t.z.a,↑t.z.b,↑t.z.c,↑t.z.d,↑t.z.e,↑t.t.a,↑t.t.b,↑t.t.c,↑t.t.d,↑t.t.e]) (List Int) rEBytes (fun t=>t) (Pt) rNeut (fun t=>[↑t.x.a,↑t.x.b,↑t.x.c,↑t.x.d,↑t.x.e,↑t.y.a,↑t.y.b,↑t.y.c,↑t.y.d,↑t.y.e,↑t.z.a,↑t.z.b,↑t.z.c,↑t.z.d,↑t.z.e,↑t.t.a,↑t.t.b,↑t.t.c,↑t.t.d,↑t.t.e]) (Bool) rENone (fun t=>t)
theorem gok_R8w:CfOk prog gI_R8w.c:=⟨gam_cons ok_Awake07 <| gam_cons ok_EBase <| gam_cons ok_EBytes <| gam_cons ok_EId <| gam_cons ok_ENone <| gam_nil,fun _ _ h=>by cases h⟩
theorem ok_awake08:CallOk prog nF77 sTrue:=by
 refine afunc_okE (g:=gI_R8w) (fu:=fun _=>0) mixed gok_R8w hF77 (by kernel_rfl) ?_
 intro args t ht
 unfold sTrue at ht
 simp only at ht
 split at ht
 case h_2=>cases ht
 have o:=run_Base
 have b:=base_by
 have n:=run_Neut
 have c:=neut_by
 have e:=run_ENone base_ok
 rw [base_some] at e
 generalize baseP=Bp at *
 generalize neutP=Np at *
 refine (R8w_ev ..).trans ?_
 refine bstep (show rTrue []=some () from rfl) ?_
 refine bstep o ?_
 refine bstep b ?_
 refine bstep n ?_
 refine bstep c ?_
 refine cstep (by decide) ?_
 refine cstep (by decide +kernel) ?_
 refine cstep (by decide +kernel) ?_
 refine cstep (by decide +kernel) ?_
 refine cstep (by decide +kernel) ?_
 refine bstep o ?_
 refine bstep e ?_
 rfl
end
end Go.Eng
