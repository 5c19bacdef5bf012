import Derived.Test.YteipjabipehbpaaGreatZO2
namespace Go.Eng
noncomputable section
open Go Go.Proofs
set_option linter.all false
def sBothC:Summ where
 T:=List Int × Int
 run:=fun
  | [.c (.s (.rptr (.ints .u64 a) 0 8)),.c (.s (.rptr (.ints .u8 b) 0 32))]=>cond (ok8 a && ok32 b) (some (evalA (val a) b)) none
  | _=>none
 enc:=fun t=>.tup [.s (.pl (.agg (.ints .u8 t.1) 32)),.s (.pl (.int .i64 t.2))]
def rBothC:List AV->Option (List Int × Int):=sBothC.run
def sBothK:Summ where
 T:=List Int × List Int
 run:=fun
  | [.c (.s (.pl (.agg (.ints .u64 a) 8))),.c (.s (.pl (.agg (.ints .u8 b) 32)))]=>some (a,b)
  | _=>none
 enc:=fun t=>.c (.s (.clor nF114 [(.ints .u64 t.1,0,8),(.ints .u8 t.2,0,32)]))
def rBothK:List AV->Option (List Int × List Int):=sBothK.run
def threeA:Str->List (List Int × Int)->Str × Int
 | s,[]=>(s,0)
 | s,r :: l=>cond (decide (r.2=0)) (threeA (s++r.1.map b8) l) ([],r.2)
def threeK (a1 b1 a2 b2 a3 b3:List Int):Str × Int:=threeA [] [evalA (val a1) b1,evalA (val a2) b2,evalA (val a3) b3]
def okKB (a b:List Int):Bool:=ok8 a && ok32 b
def sThree:Summ where
 T:=Str × Int
 run:=fun
  | [.c (.mdat [.clor f1 [(.ints .u64 a1,0,8),(.ints .u8 b1,0,32)],.clor f2 [(.ints .u64 a2,0,8),(.ints .u8 b2,0,32)],.clor f3 [(.ints .u64 a3,0,8),(.ints .u8 b3,0,32)]])]=>
   cond (Nat.beq f1 nF114 && (Nat.beq f2 nF114 && Nat.beq f3 nF114) && (okKB a1 b1 && (okKB a2 b2 && okKB a3 b3))) (some (threeK a1 b1 a2 b2 a3 b3)) none
  | [.c (.mdat [])]=>some ([],0)
  | _=>none
 enc:=eSE
def rThree:List AV->Option (Str × Int):=sThree.run
def intsW:List SV->Option (List Int)
 | []=>some []
 | .pl (.int .u64 n) :: r=>match intsW r with
  | some l=>some (n :: l)
  | none=>none
 | _=>none
def intsB:List SV->Option (List Int)
 | []=>some []
 | .pl (.int .u8 n) :: r=>match intsB r with
  | some l=>some (n :: l)
  | none=>none
 | _=>none
def runSide {T:Type} (F:List Int->List Int->List Int->List Int->T):List AV->Option T
 | [.c (.mix l)]=>match intsW (l.take 8),intsW ((l.drop 8).take 8),intsB ((l.drop 16).take 32),intsB (l.drop 48) with
  | some e,some o,some s,some t=>cond (ok8 e && (ok8 o && (ok32 s && ok32 t))) (some (F e o s t)) none
  | _,_,_,_=>none
 | _=>none
def sClient:Summ:={ T:=Str × Int,run:=runSide fun e o s t=>threeK e s e t o s,enc:=eSE }
def rClient:List AV->Option (Str × Int):=sClient.run
def sServer:Summ:={ T:=Str × Int,run:=runSide fun e o s t=>threeK e s o s e t,enc:=eSE }
def rServer:List AV->Option (Str × Int):=sServer.run
def drPrk (s:Str):Str:=hmacS [] s
def drHand (s p:Str):Str:=(labelA (drPrk s) [72,97,110,100,115,104,97,107,101,83,101,99,114,101,116] (hS p) 64).1
def drSrv (s p:Str):Str:=hmacS (labelA (drHand s p) [83,101,114,118,101,114,77,65,67] [] 64).1 (hS p)
def drCli (s p:Str):Str:=hmacS (labelA (drHand s p) [67,108,105,101,110,116,77,65,67] [] 64).1 (hS (p++drSrv s p))
def drSes (s p:Str):Str:=(labelA (drPrk s) [83,101,115,115,105,111,110,75,101,121] (hS p) 64).1
def sDerive:Summ where
 T:=Str × Str × Str
 run:=fun
  | [.c (.s (.pl (.str s))),.c (.s (.pl (.str p)))]=>cond (Nat.ble s.length 1099511000000 && Nat.ble p.length 1099511000000) (some (drSes s p,drSrv s p,drCli s p)) none
  | _=>none
 enc:=fun t=>.agg (.strs [t.1,t.2.1,t.2.2]) 3
def rDerive:List AV->Option (Str × Str × Str):=sDerive.run
def sEBytesN:Summ:={ T:=Nat,run:=runP1 fun p=>fv (bytesF p)%P25,enc:=fun t=>eB32 (lo 32 t) }
def rEBytesN:List AV->Option Nat:=sEBytesN.run
section
variable (T0:Type) (R0:List AV->Option T0) (f0a:T0->List Int) (f0b:T0->Int)
def g_AkB:Cg:=⟨⟨gam [(nF114,⟨R0,fun t=>AV.tup [.s (.pl (.agg (.ints .u8 (f0a t)) 32)),.s (.pl (.int .i64 (f0b t)))]⟩)],[],noE⟩,[]⟩
theorem AkB_ev (fu:Nat) (k b:List Int):afunc prog fF74 (g_AkB T0 R0 f0a f0b) fu [.agg (.ints .u64 k) 8,.agg (.ints .u8 b) 32]=some (AV.s (SV.clor 114 [(.ints .u64 k,0,8),(.ints .u8 b,0,32)])):=by kernel_rfl
end
section
variable (T0:Type) (R0:List AV->Option T0) (f0a:T0->List Int) (f0b:T0->Int)
def g_AkC:Cg:=⟨⟨gam [(nF12,⟨R0,fun t=>AV.tup [.s (.pl (.agg (.ints .u8 (f0a t)) 32)),.s (.pl (.int .i64 (f0b t)))]⟩)],[],noE⟩,[]⟩
theorem AkC_ev (fu:Nat) (k b:List Int):afunc prog fF114 (g_AkC T0 R0 f0a f0b) fu [.s (.rptr (.ints .u64 k) 0 8),.s (.rptr (.ints .u8 b) 0 32)]=(R0 [.agg (.ints .u64 (List.take 8 (List.drop 0 k))) 8,.agg (.ints .u8 (List.take 32 (List.drop 0 b))) 32]).bind fun t=>some (AV.tup [.s (.pl (.agg (.ints .u8 (f0a t)) 32)),.s (.pl (.int .i64 (f0b t)))]):=by kernel_rfl
end
section
variable (T0:Type) (R0:List AV->Option T0) (f0a:T0->List Int) (f0b:T0->Int)
def g_AkT:Cg:=⟨⟨gam [(nF114,⟨R0,fun t=>AV.tup [.s (.pl (.agg (.ints .u8 (f0a t)) 32)),.s (.pl (.int .i64 (f0b t)))]⟩)],[],noE⟩,[(4,[4,9,10,11],[2,3,4]),(1000004,[5],[])]⟩
theorem AkT_ev (fu:Nat) (k1 b1 k2 b2 k3 b3:List Int):afunc prog fF26 (g_AkT T0 R0 f0a f0b) fu [.c (CV.mdat [SV.clor nF114 [(.ints .u64 k1,0,8),(.ints .u8 b1,0,32)],SV.clor nF114 [(.ints .u64 k2,0,8),(.ints .u8 b2,0,32)],SV.clor nF114 [(.ints .u64 k3,0,8),(.ints .u8 b3,0,32)]])]=(R0 [.s (.rptr (.ints .u64 k1) 0 8),.s (.rptr (.ints .u8 b1) 0 32)]).bind fun t=>bif !decide (f0b t=(0:Int)) then some (AV.tup [.s (.pl (.str [])),.s (.pl (.int .i64 (f0b t)))]) else bif decide (0+(List.map b8 (List.take 32 (List.drop 0 (f0a t)))).length <= 9223372036854775807) then (R0 [.s (.rptr (.ints .u64 k2) 0 8),.s (.rptr (.ints .u8 b2) 0 32)]).bind fun t_1=>bif !decide (f0b t_1=(0:Int)) then some (AV.tup [.s (.pl (.str [])),.s (.pl (.int .i64 (f0b t_1)))]) else bif decide (List.length ([]++List.map b8 (List.take 32 (List.drop 0 (f0a t))))+(List.map b8 (List.take 32 (List.drop 0 (f0a t_1)))).length <= 9223372036854775807) then (R0 [.s (.rptr (.ints .u64 k3) 0 8),.s (.rptr (.ints .u8 b3) 0 32)]).bind fun t_2=>bif !decide (f0b t_2=(0:Int)) then some (AV.tup [.s (.pl (.str [])),.s (.pl (.int .i64 (f0b t_2)))]) else bif decide (List.length ([]++List.map b8 (List.take 32 (List.drop 0 (f0a t)))++List.map b8 (List.take 32 (List.drop 0 (f0a t_1))))+(List.map b8 (List.take 32 (List.drop 0 (f0a t_2)))).length <= 9223372036854775807) then some (AV.tup [.s (.pl (.str ([]++List.map b8 (List.take 32 (List.drop 0 (f0a t)))++List.map b8 (List.take 32 (List.drop 0 (f0a t_1)))++List.map b8 (List.take 32 (List.drop 0 (f0a t_2)))))),.s (.pl (.int .i64 (0:Int)))]) else none else none else none:=by kernel_rfl
end
section
variable (T0:Type) (R0:List AV->Option T0) (f0a:T0->List Int) (f0b:T0->Int)
def g_AkZ:Cg:=⟨⟨gam [(nF114,⟨R0,fun t=>AV.tup [.s (.pl (.agg (.ints .u8 (f0a t)) 32)),.s (.pl (.int .i64 (f0b t)))]⟩)],[],noE⟩,[(4,[4,9,10,11],[2,3,4]),(1000004,[5],[])]⟩
theorem AkZ_ev (fu:Nat):afunc prog fF26 (g_AkZ T0 R0 f0a f0b) fu [.c (CV.mdat [])]=some (AV.tup [.s (.pl (.str [])),.s (.pl (.int .i64 (0:Int)))]):=by kernel_rfl
end
set_option maxRecDepth 4000
theorem evalA_len (k:Nat) (b:List Int):(evalA k b).1.length=32:=by
 rw [evalA_eq]
 cases decide ((readA b).2=0)
 ·rfl
 ·cases Nat.beq k 0
  ·exact length_lo _ _
  ·rfl
abbrev gI_AkC:Cg:=g_AkC (List Int × Int) rEval (fun t=>t.fst) (fun t=>t.snd)
theorem gok_AkC:CfOk prog gI_AkC.c:=⟨gam_cons ok_Eval <| gam_nil,fun _ _ h=>by cases h⟩
theorem ok_BothC:CallOk prog nF114 sBothC:=by
 refine afunc_okE (g:=gI_AkC) (fu:=fun _=>0) mixed gok_AkC hF114 (by kernel_rfl) ?_
 intro args t ht
 unfold sBothC at ht
 simp only at ht
 split at ht
 ·rename_i a b
  obtain ⟨h1,h2⟩:=ctrueS ht
  subst h2
  rw [Bool.and_eq_true] at h1
  obtain ⟨ha,hb⟩:=h1
  have la:=ok8_len ha
  have lb:=(ok32_ok hb).1
  have r:=run_Eval ha hb
  refine (AkC_ev ..).trans ?_
  rw [List.drop_zero,List.drop_zero,List.take_of_length_le (by omega),List.take_of_length_le (by omega)]
  refine bstep r ?_
  rfl
 ·cases ht
theorem run_BothC {a b:List Int} (ha:ok8 a=true) (hb:ok32 b=true):rBothC [.s (.rptr (.ints .u64 a) 0 8),.s (.rptr (.ints .u8 b) 0 32)]=some (evalA (val a) b):=by
 show cond (ok8 a && ok32 b) (some (evalA (val a) b)) none=_
 rw [ha,hb]; rfl
abbrev gI_AkB:Cg:=g_AkB (List Int × Int) rBothC (fun t=>t.fst) (fun t=>t.snd)
theorem gok_AkB:CfOk prog gI_AkB.c:=⟨gam_cons ok_BothC <| gam_nil,fun _ _ h=>by cases h⟩
theorem ok_BothK:CallOk prog nF74 sBothK:=by
 refine afunc_okE (g:=gI_AkB) (fu:=fun _=>0) mixed gok_AkB hF74 (by kernel_rfl) ?_
 intro args t ht
 unfold sBothK at ht
 simp only at ht
 split at ht
 ·cases ht
  exact AkB_ev ..
 ·cases ht
theorem run_BothK (a b:List Int):rBothK [W8 a,eB32 b]=some (a,b):=rfl
theorem okKB_ok {a b:List Int} (h:okKB a b=true):ok8 a=true /\ ok32 b=true:=by
 unfold okKB at h
 rwa [Bool.and_eq_true] at h
abbrev gI_AkT:Cg:=g_AkT (List Int × Int) rBothC (fun t=>t.fst) (fun t=>t.snd)
theorem gok_AkT:CfOk prog gI_AkT.c:=⟨gam_cons ok_BothC <| gam_nil,fun _ _ h=>by cases h⟩
abbrev gI_AkZ:Cg:=g_AkZ (List Int × Int) rBothC (fun t=>t.fst) (fun t=>t.snd)
theorem ok_Three:CallOk prog nF26 sThree:=by
 refine afunc_okE (g:=gI_AkT) (fu:=fun _=>5) mixed gok_AkT hF26 (by kernel_rfl) ?_
 intro args t ht
 unfold sThree at ht
 simp only at ht
 split at ht
 ·rename_i f1 a1 b1 f2 a2 b2 f3 a3 b3
  obtain ⟨h1,h2⟩:=ctrueS ht
  subst h2
  rw [Bool.and_eq_true,Bool.and_eq_true,Bool.and_eq_true,Bool.and_eq_true,Bool.and_eq_true] at h1
  obtain ⟨⟨e1,e2,e3⟩,k1,k2,k3⟩:=h1
  have e1:=Nat.eq_of_beq_eq_true e1
  have e2:=Nat.eq_of_beq_eq_true e2
  have e3:=Nat.eq_of_beq_eq_true e3
  subst e1 e2 e3
  obtain ⟨p1,q1⟩:=okKB_ok k1
  obtain ⟨p2,q2⟩:=okKB_ok k2
  obtain ⟨p3,q3⟩:=okKB_ok k3
  have r1:=run_BothC p1 q1
  have r2:=run_BothC p2 q2
  have r3:=run_BothC p3 q3
  have l1:=evalA_len (val a1) b1
  have l2:=evalA_len (val a2) b2
  have l3:=evalA_len (val a3) b3
  have eT:threeK a1 b1 a2 b2 a3 b3=threeA [] [evalA (val a1) b1,evalA (val a2) b2,evalA (val a3) b3]:=rfl
  refine (AkT_ev ..).trans ?_
  show _=some (eSE (threeK a1 b1 a2 b2 a3 b3))
  rw [eT]
  clear eT
  have tk:∀ l:List Int,l.length=32->List.take 32 (List.drop 0 l)=l:=fun l h=>by rw [List.drop_zero,List.take_of_length_le (by omega)]
  generalize evalA (val a1) b1=E1 at *
  generalize evalA (val a2) b2=E2 at *
  generalize evalA (val a3) b3=E3 at *
  obtain ⟨L1,x1⟩:=E1
  obtain ⟨L2,x2⟩:=E2
  obtain ⟨L3,x3⟩:=E3
  dsimp only at l1 l2 l3
  have d1:∀ (x:Int) (s:Str) (L:List Int) (r:List (List Int × Int)),threeA s ((L,x) :: r)=cond (decide (x=0)) (threeA (s++L.map b8) r) ([],x):=fun _ _ _ _=>rfl
  refine bstep r1 ?_
  dsimp only
  rw [d1,tk L1 l1]
  by_cases h1:x1=0
  ·rw [decide_eq_true h1,Bool.not_true,cond_false,cond_true]
   refine cstep (decide_eq_true (by rw [List.length_map]; omega)) ?_
   refine bstep r2 ?_
   dsimp only
   rw [d1,tk L2 l2]
   by_cases h2:x2=0
   ·rw [decide_eq_true h2,Bool.not_true,cond_false,cond_true]
    refine cstep (decide_eq_true (by rw [List.nil_append,List.length_map,List.length_map]; omega)) ?_
    refine bstep r3 ?_
    dsimp only
    rw [d1,tk L3 l3]
    by_cases h3:x3=0
    ·rw [decide_eq_true h3,Bool.not_true,cond_false,cond_true]
     refine cstep (decide_eq_true (by rw [List.nil_append,List.length_append,List.length_map,List.length_map,List.length_map]; omega)) ?_
     rfl
    ·rw [decide_eq_false h3,Bool.not_false,cond_true,cond_false]; rfl
   ·rw [decide_eq_false h2,Bool.not_false,cond_true,cond_false]; rfl
  ·rw [decide_eq_false h1,Bool.not_false,cond_true,cond_false]; rfl
 ·cases ht
  have:gI_AkT=gI_AkZ:=rfl
  rw [this]
  exact AkZ_ev ..
 ·cases ht
theorem run_Three {a1 b1 a2 b2 a3 b3:List Int} (h1:okKB a1 b1=true) (h2:okKB a2 b2=true) (h3:okKB a3 b3=true) :
  rThree [.c (.mdat [.clor nF114 [(.ints .u64 a1,0,8),(.ints .u8 b1,0,32)],.clor nF114 [(.ints .u64 a2,0,8),(.ints .u8 b2,0,32)],.clor nF114 [(.ints .u64 a3,0,8),(.ints .u8 b3,0,32)]])]=some (threeK a1 b1 a2 b2 a3 b3):=by
 show cond (Nat.beq nF114 nF114 && (Nat.beq nF114 nF114 && Nat.beq nF114 nF114) && (okKB a1 b1 && (okKB a2 b2 && okKB a3 b3))) (some (threeK a1 b1 a2 b2 a3 b3)) none=_
 rw [h1,h2,h3,Nat.beq_refl]; rfl
section
variable (T0:Type) (R0:List AV->Option T0) (f0a f0b:T0->List Int) (T1:Type) (R1:List AV->Option T1) (f1a:T1->Str) (f1b:T1->Int)
def g_Akl:Cg:=⟨⟨gam [(nF74,⟨R0,fun t=>AV.s (SV.clor nF114 [(.ints .u64 (f0a t),0,8),(.ints .u8 (f0b t),0,32)])⟩),(nF26,⟨R1,fun t=>AV.tup [.s (.pl (.str (f1a t))),.s (.pl (.int .i64 (f1b t)))]⟩)],[],noE⟩,[]⟩
theorem Akl_ev (fu:Nat) (e0 e1 e2 e3 e4 e5 e6 e7 o0 o1 o2 o3 o4 o5 o6 o7 s0 s1 s2 s3 s4 s5 s6 s7 s8 s9 s10 s11 s12 s13 s14 s15 s16 s17 s18 s19 s20 s21 s22 s23 s24 s25 s26 s27 s28 s29 s30 s31 t0 t1 t2 t3 t4 t5 t6 t7 t8 t9 t10 t11 t12 t13 t14 t15 t16 t17 t18 t19 t20 t21 t22 t23 t24 t25 t26 t27 t28 t29 t30 t31:Int):afunc prog fF24 (g_Akl T0 R0 f0a f0b T1 R1 f1a f1b) fu [.c (.mix (let y:=let y:=let y:=let y:=[.pl (.int .u8 t27),.pl (.int .u8 t28),.pl (.int .u8 t29),.pl (.int .u8 t30),.pl (.int .u8 t31)]; SV.pl (.int .u8 t22) :: SV.pl (.int .u8 t23) :: SV.pl (.int .u8 t24) :: SV.pl (.int .u8 t25) :: SV.pl (.int .u8 t26) :: y; let y:=SV.pl (.int .u8 t17) :: SV.pl (.int .u8 t18) :: SV.pl (.int .u8 t19) :: SV.pl (.int .u8 t20) :: SV.pl (.int .u8 t21) :: y; SV.pl (.int .u8 t12) :: SV.pl (.int .u8 t13) :: SV.pl (.int .u8 t14) :: SV.pl (.int .u8 t15) :: SV.pl (.int .u8 t16) :: y; let y:=let y:=SV.pl (.int .u8 t7) :: SV.pl (.int .u8 t8) :: SV.pl (.int .u8 t9) :: SV.pl (.int .u8 t10) :: SV.pl (.int .u8 t11) :: y; SV.pl (.int .u8 t2) :: SV.pl (.int .u8 t3) :: SV.pl (.int .u8 t4) :: SV.pl (.int .u8 t5) :: SV.pl (.int .u8 t6) :: y; let y:=SV.pl (.int .u8 s29) :: SV.pl (.int .u8 s30) :: SV.pl (.int .u8 s31) :: SV.pl (.int .u8 t0) :: SV.pl (.int .u8 t1) :: y; SV.pl (.int .u8 s24) :: SV.pl (.int .u8 s25) :: SV.pl (.int .u8 s26) :: SV.pl (.int .u8 s27) :: SV.pl (.int .u8 s28) :: y; let y:=let y:=let y:=SV.pl (.int .u8 s19) :: SV.pl (.int .u8 s20) :: SV.pl (.int .u8 s21) :: SV.pl (.int .u8 s22) :: SV.pl (.int .u8 s23) :: y; SV.pl (.int .u8 s14) :: SV.pl (.int .u8 s15) :: SV.pl (.int .u8 s16) :: SV.pl (.int .u8 s17) :: SV.pl (.int .u8 s18) :: y; let y:=SV.pl (.int .u8 s9) :: SV.pl (.int .u8 s10) :: SV.pl (.int .u8 s11) :: SV.pl (.int .u8 s12) :: SV.pl (.int .u8 s13) :: y; SV.pl (.int .u8 s4) :: SV.pl (.int .u8 s5) :: SV.pl (.int .u8 s6) :: SV.pl (.int .u8 s7) :: SV.pl (.int .u8 s8) :: y; let y:=let y:=SV.pl (.int .u64 o7) :: SV.pl (.int .u8 s0) :: SV.pl (.int .u8 s1) :: SV.pl (.int .u8 s2) :: SV.pl (.int .u8 s3) :: y; SV.pl (.int .u64 o2) :: SV.pl (.int .u64 o3) :: SV.pl (.int .u64 o4) :: SV.pl (.int .u64 o5) :: SV.pl (.int .u64 o6) :: y; let y:=SV.pl (.int .u64 e5) :: SV.pl (.int .u64 e6) :: SV.pl (.int .u64 e7) :: SV.pl (.int .u64 o0) :: SV.pl (.int .u64 o1) :: y; SV.pl (.int .u64 e0) :: SV.pl (.int .u64 e1) :: SV.pl (.int .u64 e2) :: SV.pl (.int .u64 e3) :: SV.pl (.int .u64 e4) :: y))]=(R0 [.agg (.ints .u64 [e0,e1,e2,e3,e4,e5,e6,e7]) 8,.agg (.ints .u8 [s0,s1,s2,s3,s4,s5,s6,s7,s8,s9,s10,s11,s12,s13,s14,s15,s16,s17,s18,s19,s20,s21,s22,s23,s24,s25,s26,s27,s28,s29,s30,s31]) 32]).bind fun t=>(R0 [.agg (.ints .u64 [e0,e1,e2,e3,e4,e5,e6,e7]) 8,.agg (.ints .u8 [t0,t1,t2,t3,t4,t5,t6,t7,t8,t9,t10,t11,t12,t13,t14,t15,t16,t17,t18,t19,t20,t21,t22,t23,t24,t25,t26,t27,t28,t29,t30,t31]) 32]).bind fun t_1=>(R0 [.agg (.ints .u64 [o0,o1,o2,o3,o4,o5,o6,o7]) 8,.agg (.ints .u8 [s0,s1,s2,s3,s4,s5,s6,s7,s8,s9,s10,s11,s12,s13,s14,s15,s16,s17,s18,s19,s20,s21,s22,s23,s24,s25,s26,s27,s28,s29,s30,s31]) 32]).bind fun t_2=>(R1 [.c (CV.mdat [SV.clor 114 [(.ints .u64 (f0a t),0,8),(.ints .u8 (f0b t),0,32)],SV.clor 114 [(.ints .u64 (f0a t_1),0,8),(.ints .u8 (f0b t_1),0,32)],SV.clor 114 [(.ints .u64 (f0a t_2),0,8),(.ints .u8 (f0b t_2),0,32)]])]).bind fun t=>some (AV.tup [.s (.pl (.str (f1a t))),.s (.pl (.int .i64 (f1b t)))]):=by kernel_rfl
end
section
variable (T0:Type) (R0:List AV->Option T0) (f0a f0b:T0->List Int) (T1:Type) (R1:List AV->Option T1) (f1a:T1->Str) (f1b:T1->Int)
def g_Aks:Cg:=⟨⟨gam [(nF74,⟨R0,fun t=>AV.s (SV.clor nF114 [(.ints .u64 (f0a t),0,8),(.ints .u8 (f0b t),0,32)])⟩),(nF26,⟨R1,fun t=>AV.tup [.s (.pl (.str (f1a t))),.s (.pl (.int .i64 (f1b t)))]⟩)],[],noE⟩,[]⟩
theorem Aks_ev (fu:Nat) (e0 e1 e2 e3 e4 e5 e6 e7 o0 o1 o2 o3 o4 o5 o6 o7 s0 s1 s2 s3 s4 s5 s6 s7 s8 s9 s10 s11 s12 s13 s14 s15 s16 s17 s18 s19 s20 s21 s22 s23 s24 s25 s26 s27 s28 s29 s30 s31 t0 t1 t2 t3 t4 t5 t6 t7 t8 t9 t10 t11 t12 t13 t14 t15 t16 t17 t18 t19 t20 t21 t22 t23 t24 t25 t26 t27 t28 t29 t30 t31:Int):afunc prog fF25 (g_Aks T0 R0 f0a f0b T1 R1 f1a f1b) fu [.c (.mix (let y:=let y:=let y:=let y:=[.pl (.int .u8 t27),.pl (.int .u8 t28),.pl (.int .u8 t29),.pl (.int .u8 t30),.pl (.int .u8 t31)]; SV.pl (.int .u8 t22) :: SV.pl (.int .u8 t23) :: SV.pl (.int .u8 t24) :: SV.pl (.int .u8 t25) :: SV.pl (.int .u8 t26) :: y; let y:=SV.pl (.int .u8 t17) :: SV.pl (.int .u8 t18) :: SV.pl (.int .u8 t19) :: SV.pl (.int .u8 t20) :: SV.pl (.int .u8 t21) :: y; SV.pl (.int .u8 t12) :: SV.pl (.int .u8 t13) :: SV.pl (.int .u8 t14) :: SV.pl (.int .u8 t15) :: SV.pl (.int .u8 t16) :: y; let y:=let y:=SV.pl (.int .u8 t7) :: SV.pl (.int .u8 t8) :: SV.pl (.int .u8 t9) :: SV.pl (.int .u8 t10) :: SV.pl (.int .u8 t11) :: y; SV.pl (.int .u8 t2) :: SV.pl (.int .u8 t3) :: SV.pl (.int .u8 t4) :: SV.pl (.int .u8 t5) :: SV.pl (.int .u8 t6) :: y; let y:=SV.pl (.int .u8 s29) :: SV.pl (.int .u8 s30) :: SV.pl (.int .u8 s31) :: SV.pl (.int .u8 t0) :: SV.pl (.int .u8 t1) :: y; SV.pl (.int .u8 s24) :: SV.pl (.int .u8 s25) :: SV.pl (.int .u8 s26) :: SV.pl (.int .u8 s27) :: SV.pl (.int .u8 s28) :: y; let y:=let y:=let y:=SV.pl (.int .u8 s19) :: SV.pl (.int .u8 s20) :: SV.pl (.int .u8 s21) :: SV.pl (.int .u8 s22) :: SV.pl (.int .u8 s23) :: y; SV.pl (.int .u8 s14) :: SV.pl (.int .u8 s15) :: SV.pl (.int .u8 s16) :: SV.pl (.int .u8 s17) :: SV.pl (.int .u8 s18) :: y; let y:=SV.pl (.int .u8 s9) :: SV.pl (.int .u8 s10) :: SV.pl (.int .u8 s11) :: SV.pl (.int .u8 s12) :: SV.pl (.int .u8 s13) :: y; SV.pl (.int .u8 s4) :: SV.pl (.int .u8 s5) :: SV.pl (.int .u8 s6) :: SV.pl (.int .u8 s7) :: SV.pl (.int .u8 s8) :: y; let y:=let y:=SV.pl (.int .u64 o7) :: SV.pl (.int .u8 s0) :: SV.pl (.int .u8 s1) :: SV.pl (.int .u8 s2) :: SV.pl (.int .u8 s3) :: y; SV.pl (.int .u64 o2) :: SV.pl (.int .u64 o3) :: SV.pl (.int .u64 o4) :: SV.pl (.int .u64 o5) :: SV.pl (.int .u64 o6) :: y; let y:=SV.pl (.int .u64 e5) :: SV.pl (.int .u64 e6) :: SV.pl (.int .u64 e7) :: SV.pl (.int .u64 o0) :: SV.pl (.int .u64 o1) :: y; SV.pl (.int .u64 e0) :: SV.pl (.int .u64 e1) :: SV.pl (.int .u64 e2) :: SV.pl (.int .u64 e3) :: SV.pl (.int .u64 e4) :: y))]=(R0 [.agg (.ints .u64 [e0,e1,e2,e3,e4,e5,e6,e7]) 8,.agg (.ints .u8 [s0,s1,s2,s3,s4,s5,s6,s7,s8,s9,s10,s11,s12,s13,s14,s15,s16,s17,s18,s19,s20,s21,s22,s23,s24,s25,s26,s27,s28,s29,s30,s31]) 32]).bind fun t=>(R0 [.agg (.ints .u64 [o0,o1,o2,o3,o4,o5,o6,o7]) 8,.agg (.ints .u8 [s0,s1,s2,s3,s4,s5,s6,s7,s8,s9,s10,s11,s12,s13,s14,s15,s16,s17,s18,s19,s20,s21,s22,s23,s24,s25,s26,s27,s28,s29,s30,s31]) 32]).bind fun t_1=>(R0 [.agg (.ints .u64 [e0,e1,e2,e3,e4,e5,e6,e7]) 8,.agg (.ints .u8 [t0,t1,t2,t3,t4,t5,t6,t7,t8,t9,t10,t11,t12,t13,t14,t15,t16,t17,t18,t19,t20,t21,t22,t23,t24,t25,t26,t27,t28,t29,t30,t31]) 32]).bind fun t_2=>(R1 [.c (CV.mdat [SV.clor 114 [(.ints .u64 (f0a t),0,8),(.ints .u8 (f0b t),0,32)],SV.clor 114 [(.ints .u64 (f0a t_1),0,8),(.ints .u8 (f0b t_1),0,32)],SV.clor 114 [(.ints .u64 (f0a t_2),0,8),(.ints .u8 (f0b t_2),0,32)]])]).bind fun t=>some (AV.tup [.s (.pl (.str (f1a t))),.s (.pl (.int .i64 (f1b t)))]):=by kernel_rfl
end
set_option maxRecDepth 4000
theorem consOf {l:List Int} {n:Nat} (h:l.length=n+1):∃ a r,l=a :: r /\ r.length=n:=by
 cases l with
 | nil=>cases h
 | cons a r=>exact ⟨a,r,rfl,Nat.succ.inj h⟩
theorem len8x {l0:List Int} (h0:l0.length=8):∃ a0 a1 a2 a3 a4 a5 a6 a7:Int,l0=[a0,a1,a2,a3,a4,a5,a6,a7]:=by
 obtain ⟨a0,l1,e0,h1⟩:=consOf h0
 obtain ⟨a1,l2,e1,h2⟩:=consOf h1
 obtain ⟨a2,l3,e2,h3⟩:=consOf h2
 obtain ⟨a3,l4,e3,h4⟩:=consOf h3
 obtain ⟨a4,l5,e4,h5⟩:=consOf h4
 obtain ⟨a5,l6,e5,h6⟩:=consOf h5
 obtain ⟨a6,l7,e6,h7⟩:=consOf h6
 obtain ⟨a7,l8,e7,h8⟩:=consOf h7
 have e8:=List.length_eq_zero_iff.1 h8
 refine ⟨a0,a1,a2,a3,a4,a5,a6,a7,?_⟩
 rw [e0,e1,e2,e3,e4,e5,e6,e7,e8]
theorem len32x {l0:List Int} (h0:l0.length=32):∃ a0 a1 a2 a3 a4 a5 a6 a7 a8 a9 a10 a11 a12 a13 a14 a15 a16 a17 a18 a19 a20 a21 a22 a23 a24 a25 a26 a27 a28 a29 a30 a31:Int,l0=[a0,a1,a2,a3,a4,a5,a6,a7,a8,a9,a10,a11,a12,a13,a14,a15,a16,a17,a18,a19,a20,a21,a22,a23,a24,a25,a26,a27,a28,a29,a30,a31]:=by
 obtain ⟨a0,l1,e0,h1⟩:=consOf h0
 obtain ⟨a1,l2,e1,h2⟩:=consOf h1
 obtain ⟨a2,l3,e2,h3⟩:=consOf h2
 obtain ⟨a3,l4,e3,h4⟩:=consOf h3
 obtain ⟨a4,l5,e4,h5⟩:=consOf h4
 obtain ⟨a5,l6,e5,h6⟩:=consOf h5
 obtain ⟨a6,l7,e6,h7⟩:=consOf h6
 obtain ⟨a7,l8,e7,h8⟩:=consOf h7
 obtain ⟨a8,l9,e8,h9⟩:=consOf h8
 obtain ⟨a9,l10,e9,h10⟩:=consOf h9
 obtain ⟨a10,l11,e10,h11⟩:=consOf h10
 obtain ⟨a11,l12,e11,h12⟩:=consOf h11
 obtain ⟨a12,l13,e12,h13⟩:=consOf h12
 obtain ⟨a13,l14,e13,h14⟩:=consOf h13
 obtain ⟨a14,l15,e14,h15⟩:=consOf h14
 obtain ⟨a15,l16,e15,h16⟩:=consOf h15
 obtain ⟨a16,l17,e16,h17⟩:=consOf h16
 obtain ⟨a17,l18,e17,h18⟩:=consOf h17
 obtain ⟨a18,l19,e18,h19⟩:=consOf h18
 obtain ⟨a19,l20,e19,h20⟩:=consOf h19
 obtain ⟨a20,l21,e20,h21⟩:=consOf h20
 obtain ⟨a21,l22,e21,h22⟩:=consOf h21
 obtain ⟨a22,l23,e22,h23⟩:=consOf h22
 obtain ⟨a23,l24,e23,h24⟩:=consOf h23
 obtain ⟨a24,l25,e24,h25⟩:=consOf h24
 obtain ⟨a25,l26,e25,h26⟩:=consOf h25
 obtain ⟨a26,l27,e26,h27⟩:=consOf h26
 obtain ⟨a27,l28,e27,h28⟩:=consOf h27
 obtain ⟨a28,l29,e28,h29⟩:=consOf h28
 obtain ⟨a29,l30,e29,h30⟩:=consOf h29
 obtain ⟨a30,l31,e30,h31⟩:=consOf h30
 obtain ⟨a31,l32,e31,h32⟩:=consOf h31
 have e32:=List.length_eq_zero_iff.1 h32
 refine ⟨a0,a1,a2,a3,a4,a5,a6,a7,a8,a9,a10,a11,a12,a13,a14,a15,a16,a17,a18,a19,a20,a21,a22,a23,a24,a25,a26,a27,a28,a29,a30,a31,?_⟩
 rw [e0,e1,e2,e3,e4,e5,e6,e7,e8,e9,e10,e11,e12,e13,e14,e15,e16,e17,e18,e19,e20,e21,e22,e23,e24,e25,e26,e27,e28,e29,e30,e31,e32]
theorem intsW_ok:∀ {l:List SV} {e:List Int},intsW l=some e->l=e.map fun n=>SV.pl (.int .u64 n):=by
 intro l
 induction l with
 | nil=>intro e h; cases h; rfl
 | cons x r ih=>
  intro e h
  unfold intsW at h
  split at h
  ·rename_i q; cases q
  ·rename_i n r' q
   cases q
   split at h
   ·rename_i l' hl
    cases h
    rw [List.map_cons,<-ih hl]
   ·cases h
  ·cases h
theorem intsB_ok:∀ {l:List SV} {e:List Int},intsB l=some e->l=e.map fun n=>SV.pl (.int .u8 n):=by
 intro l
 induction l with
 | nil=>intro e h; cases h; rfl
 | cons x r ih=>
  intro e h
  unfold intsB at h
  split at h
  ·rename_i q; cases q
  ·rename_i n r' q
   cases q
   split at h
   ·rename_i l' hl
    cases h
    rw [List.map_cons,<-ih hl]
   ·cases h
  ·cases h
def sideC (e o s t:List Int):AV:=.c (.mix (e.map (fun n=>SV.pl (.int .u64 n))++(o.map (fun n=>SV.pl (.int .u64 n))++(s.map (fun n=>SV.pl (.int .u8 n))++t.map (fun n=>SV.pl (.int .u8 n))))))
theorem runSide_ok {T:Type} {F:List Int->List Int->List Int->List Int->T} {args:List AV} {r:T} (h:runSide F args=some r) :
  ∃ e o s t,args=[sideC e o s t] /\ ok8 e=true /\ ok8 o=true /\ ok32 s=true /\ ok32 t=true /\ r=F e o s t:=by
 unfold runSide at h
 split at h
 ·rename_i l
  split at h
  ·rename_i e o s t h1 h2 h3 h4
   obtain ⟨hc,hr⟩:=ctrueS h
   simp only [Bool.and_eq_true] at hc
   obtain ⟨c1,c2,c3,c4⟩:=hc
   refine ⟨e,o,s,t,?_,c1,c2,c3,c4,hr.symm⟩
   have k1:=intsW_ok h1
   have k2:=intsW_ok h2
   have k3:=intsB_ok h3
   have k4:=intsB_ok h4
   have e1:=(List.take_append_drop 8 l).symm
   have e2:=(List.take_append_drop 8 (l.drop 8)).symm
   have e3:=(List.take_append_drop 32 (l.drop 16)).symm
   rw [List.drop_drop] at e2
   rw [List.drop_drop] at e3
   have d2:l.drop (8+8)=l.drop 16:=rfl
   have d3:l.drop (16+32)=l.drop 48:=rfl
   rw [d2] at e2
   rw [d3] at e3
   unfold sideC
   rw [<-k1,<-k2,<-k3,<-k4,<-e3,<-e2,<-e1]
  ·cases h
 ·cases h
abbrev gI_Akl:Cg:=g_Akl (List Int × List Int) rBothK (fun t=>t.fst) (fun t=>t.snd) (Str × Int) rThree (fun t=>t.fst) (fun t=>t.snd)
theorem gok_Akl:CfOk prog gI_Akl.c:=⟨gam_cons ok_BothK <| gam_cons ok_Three <| gam_nil,fun _ _ h=>by cases h⟩
theorem ok_Client:CallOk prog nF24 sClient:=by
 refine afunc_okE (g:=gI_Akl) (fu:=fun _=>0) mixed gok_Akl hF24 (by kernel_rfl) ?_
 intro args r hr
 obtain ⟨e,o,s,t,rfl,c1,c2,c3,c4,rfl⟩:=runSide_ok (F:=fun e o s t=>threeK e s e t o s) hr
 obtain ⟨e0,e1,e2,e3,e4,e5,e6,e7,rfl⟩:=len8x (ok8_len c1)
 obtain ⟨o0,o1,o2,o3,o4,o5,o6,o7,rfl⟩:=len8x (ok8_len c2)
 obtain ⟨s0,s1,s2,s3,s4,s5,s6,s7,s8,s9,s10,s11,s12,s13,s14,s15,s16,s17,s18,s19,s20,s21,s22,s23,s24,s25,s26,s27,s28,s29,s30,s31,rfl⟩:=len32x (ok32_ok c3).1
 obtain ⟨t0,t1,t2,t3,t4,t5,t6,t7,t8,t9,t10,t11,t12,t13,t14,t15,t16,t17,t18,t19,t20,t21,t22,t23,t24,t25,t26,t27,t28,t29,t30,t31,rfl⟩:=len32x (ok32_ok c4).1
 have kb:∀ a b:List Int,ok8 a=true->ok32 b=true->okKB a b=true:=fun a b h1 h2=>by unfold okKB; rw [h1,h2]; rfl
 have th:=run_Three (kb _ _ c1 c3) (kb _ _ c1 c4) (kb _ _ c2 c3)
 refine (Akl_ev ..).trans ?_
 refine bstep (run_BothK [e0,e1,e2,e3,e4,e5,e6,e7] [s0,s1,s2,s3,s4,s5,s6,s7,s8,s9,s10,s11,s12,s13,s14,s15,s16,s17,s18,s19,s20,s21,s22,s23,s24,s25,s26,s27,s28,s29,s30,s31]) ?_
 refine bstep (run_BothK [e0,e1,e2,e3,e4,e5,e6,e7] [t0,t1,t2,t3,t4,t5,t6,t7,t8,t9,t10,t11,t12,t13,t14,t15,t16,t17,t18,t19,t20,t21,t22,t23,t24,t25,t26,t27,t28,t29,t30,t31]) ?_
 refine bstep (run_BothK [o0,o1,o2,o3,o4,o5,o6,o7] [s0,s1,s2,s3,s4,s5,s6,s7,s8,s9,s10,s11,s12,s13,s14,s15,s16,s17,s18,s19,s20,s21,s22,s23,s24,s25,s26,s27,s28,s29,s30,s31]) ?_
 refine bstep th ?_
 rfl
abbrev gI_Aks:Cg:=g_Aks (List Int × List Int) rBothK (fun t=>t.fst) (fun t=>t.snd) (Str × Int) rThree (fun t=>t.fst) (fun t=>t.snd)
theorem gok_Aks:CfOk prog gI_Aks.c:=⟨gam_cons ok_BothK <| gam_cons ok_Three <| gam_nil,fun _ _ h=>by cases h⟩
theorem ok_Server:CallOk prog nF25 sServer:=by
 refine afunc_okE (g:=gI_Aks) (fu:=fun _=>0) mixed gok_Aks hF25 (by kernel_rfl) ?_
 intro args r hr
 obtain ⟨e,o,s,t,rfl,c1,c2,c3,c4,rfl⟩:=runSide_ok (F:=fun e o s t=>threeK e s o s e t) hr
 obtain ⟨e0,e1,e2,e3,e4,e5,e6,e7,rfl⟩:=len8x (ok8_len c1)
 obtain ⟨o0,o1,o2,o3,o4,o5,o6,o7,rfl⟩:=len8x (ok8_len c2)
 obtain ⟨s0,s1,s2,s3,s4,s5,s6,s7,s8,s9,s10,s11,s12,s13,s14,s15,s16,s17,s18,s19,s20,s21,s22,s23,s24,s25,s26,s27,s28,s29,s30,s31,rfl⟩:=len32x (ok32_ok c3).1
 obtain ⟨t0,t1,t2,t3,t4,t5,t6,t7,t8,t9,t10,t11,t12,t13,t14,t15,t16,t17,t18,t19,t20,t21,t22,t23,t24,t25,t26,t27,t28,t29,t30,t31,rfl⟩:=len32x (ok32_ok c4).1
 have kb:∀ a b:List Int,ok8 a=true->ok32 b=true->okKB a b=true:=fun a b h1 h2=>by unfold okKB; rw [h1,h2]; rfl
 have th:=run_Three (kb _ _ c1 c3) (kb _ _ c2 c3) (kb _ _ c1 c4)
 refine (Aks_ev ..).trans ?_
 refine bstep (run_BothK [e0,e1,e2,e3,e4,e5,e6,e7] [s0,s1,s2,s3,s4,s5,s6,s7,s8,s9,s10,s11,s12,s13,s14,s15,s16,s17,s18,s19,s20,s21,s22,s23,s24,s25,s26,s27,s28,s29,s30,s31]) ?_
 refine bstep (run_BothK [o0,o1,o2,o3,o4,o5,o6,o7] [s0,s1,s2,s3,s4,s5,s6,s7,s8,s9,s10,s11,s12,s13,s14,s15,s16,s17,s18,s19,s20,s21,s22,s23,s24,s25,s26,s27,s28,s29,s30,s31]) ?_
 refine bstep (run_BothK [e0,e1,e2,e3,e4,e5,e6,e7] [t0,t1,t2,t3,t4,t5,t6,t7,t8,t9,t10,t11,t12,t13,t14,t15,t16,t17,t18,t19,t20,t21,t22,t23,t24,t25,t26,t27,t28,t29,t30,t31]) ?_
 refine bstep th ?_
 rfl
section
variable (T0:Type) (R0:List AV->Option T0) (f0a:T0->List UInt8)
def g_AkE:Cg:=⟨⟨gam [(nF68,⟨R0,fun t=>AV.str (f0a t)⟩)],[],noE⟩,[]⟩
theorem AkE_ev (fu:Nat) (k:Str) (ss:List Str) (n:Nat):afunc prog fF65 (g_AkE T0 R0 f0a) fu [.str k,.s (.dat (.strs ss) n 1)]=(R0 [.str k,.s (.dat (.strs ss) n 1)]).bind fun t=>some (AV.str (f0a t)):=by kernel_rfl
end
section
variable (T0:Type) (R0:List AV->Option T0) (f0a:T0->List Int)
def g_AkU:Cg:=⟨⟨gam [(nF103,⟨R0,fun t=>AV.agg (.ints .u8 (f0a t)) 64⟩)],[],noE⟩,[]⟩
theorem AkU_ev (fu:Nat) (ss:List Str) (n:Nat):afunc prog fF66 (g_AkU T0 R0 f0a) fu [.s (.dat (.strs ss) n 1)]=(R0 [.s (.dat (.strs ss) n 1)]).bind fun t=>some (AV.str (List.map b8 (List.take 64 (List.drop 0 (f0a t))))):=by kernel_rfl
end
section
variable (T0:Type) (R0:List AV->Option T0) (f0a:T0->List UInt8) (T1:Type) (R1:List AV->Option T1) (f1a:T1->List UInt8) (T2:Type) (R2:List AV->Option T2) (f2a:T2->List UInt8) (T3:Type) (R3:List AV->Option T3) (f3a:T3->List UInt8)
def g_AkD:Cg:=⟨⟨gam [(nF65,⟨R0,fun t=>AV.str (f0a t)⟩),(nF66,⟨R1,fun t=>AV.str (f1a t)⟩),(nF67,⟨R2,fun t=>AV.str (f2a t)⟩),(nF68,⟨R3,fun t=>AV.str (f3a t)⟩)],[],noE⟩,[]⟩
theorem AkD_ev (fu:Nat) (s p:Str):afunc prog fF20 (g_AkD T0 R0 f0a T1 R1 f1a T2 R2 f2a T3 R3 f3a) fu [.str s,.str p]=(R0 [.str [],.s (.dat (.strs [s]) 1 1)]).bind fun t=>(R1 [.s (.dat (.strs [p]) 1 1)]).bind fun t_1=>(R2 [.str (f0a t),.str [(72:UInt8),97,110,100,115,104,97,107,101,83,101,99,114,101,116],.str (f1a t_1)]).bind fun t_2=>(R2 [.str (f2a t_2),.str [(83:UInt8),101,114,118,101,114,77,65,67],.str []]).bind fun t_3=>(R3 [.str (f2a t_3),.s (.dat (.strs [f1a t_1]) 1 1)]).bind fun t_4=>(R2 [.str (f2a t_2),.str [(67:UInt8),108,105,101,110,116,77,65,67],.str []]).bind fun t_5=>(R1 [.s (.dat (.strs ([p]++[f3a t_4])) 2 1)]).bind fun t_6=>(R3 [.str (f2a t_5),.s (.dat (.strs [f1a t_6]) 1 1)]).bind fun t_7=>(R2 [.str (f0a t),.str [(83:UInt8),101,115,115,105,111,110,75,101,121],.str (f1a t_1)]).bind fun t=>some (AV.agg (.strs ([f2a t]++([f3a t_4]++[f3a t_7]))) 3):=by kernel_rfl
end
section
variable (T0:Type) (R0:List AV->Option T0)
def g_AkX:Cg:=⟨⟨gam [(nF6,⟨R0,fun t=>AV.bool (true)⟩)],[],noE⟩,[]⟩
theorem AkX_ev (fu:Nat):afunc prog fF62 (g_AkX T0 R0) fu []=(R0 []).bind fun t=>some (AV.bool true):=by kernel_rfl
end
section
variable (T0:Type) (R0:List AV->Option T0) (T1:Type) (R1:List AV->Option T1) (T2:Type) (R2:List AV->Option T2) (f2a:T2->List Int) (T3:Type) (R3:List AV->Option T3) (f3a f3b f3c f3d f3e f3f f3g f3h f3i f3j f3k f3l f3m f3n f3o f3p f3q f3r f3s f3t f3u f3v f3w f3x f3y f3z f3A f3B f3C f3D f3E f3F:T3->Int) (T4:Type) (R4:List AV->Option T4) (f4a:T4->Str) (f4b:T4->Int) (T5:Type) (R5:List AV->Option T5) (f5a f5b f5c:T5->Str)
def g_AkA:Cg:=⟨⟨gam [(nF61,⟨R0,fun t=>AV.bool (true)⟩),(nF62,⟨R1,fun t=>AV.bool (true)⟩),(nF22,⟨R2,fun t=>AV.agg (.ints .u64 (f2a t)) 20⟩),(nF13,⟨R3,fun t=>AV.agg (.ints .u8 [(f3a t),(f3b t),(f3c t),(f3d t),(f3e t),(f3f t),(f3g t),(f3h t),(f3i t),(f3j t),(f3k t),(f3l t),(f3m t),(f3n t),(f3o t),(f3p t),(f3q t),(f3r t),(f3s t),(f3t t),(f3u t),(f3v t),(f3w t),(f3x t),(f3y t),(f3z t),(f3A t),(f3B t),(f3C t),(f3D t),(f3E t),(f3F t)]) 32⟩),(nF24,⟨R4,fun t=>AV.tup [.s (.pl (.str (f4a t))),.s (.pl (.int .i64 (f4b t)))]⟩),(nF20,⟨R5,fun t=>AV.agg (.strs [(f5a t),(f5b t),(f5c t)]) 3⟩)],[],noE⟩,[]⟩
theorem AkA_ev (fu:Nat):afunc prog fF17 (g_AkA T0 R0 T1 R1 T2 R2 f2a T3 R3 f3a f3b f3c f3d f3e f3f f3g f3h f3i f3j f3k f3l f3m f3n f3o f3p f3q f3r f3s f3t f3u f3v f3w f3x f3y f3z f3A f3B f3C f3D f3E f3F T4 R4 f4a f4b T5 R5 f5a f5b f5c) fu []=(R0 []).bind fun t=>(R1 []).bind fun t=>(R2 []).bind fun t=>(R3 [.agg (.ints .u64 (f2a t)) 20]).bind fun t=>(R2 []).bind fun t_1=>(R3 [.agg (.ints .u64 (f2a t_1)) 20]).bind fun t_2=>(R4 [.c (.mix [.pl (.int .u64 (0:Int)),.pl (.int .u64 (0:Int)),.pl (.int .u64 (0:Int)),.pl (.int .u64 (0:Int)),.pl (.int .u64 (0:Int)),.pl (.int .u64 (0:Int)),.pl (.int .u64 (0:Int)),.pl (.int .u64 (0:Int)),.pl (.int .u64 (0:Int)),.pl (.int .u64 (0:Int)),.pl (.int .u64 (0:Int)),.pl (.int .u64 (0:Int)),.pl (.int .u64 (0:Int)),.pl (.int .u64 (0:Int)),.pl (.int .u64 (0:Int)),.pl (.int .u64 (0:Int)),.pl (.int .u8 (f3a t)),.pl (.int .u8 (f3b t)),.pl (.int .u8 (f3c t)),.pl (.int .u8 (f3d t)),.pl (.int .u8 (f3e t)),.pl (.int .u8 (f3f t)),.pl (.int .u8 (f3g t)),.pl (.int .u8 (f3h t)),.pl (.int .u8 (f3i t)),.pl (.int .u8 (f3j t)),.pl (.int .u8 (f3k t)),.pl (.int .u8 (f3l t)),.pl (.int .u8 (f3m t)),.pl (.int .u8 (f3n t)),.pl (.int .u8 (f3o t)),.pl (.int .u8 (f3p t)),.pl (.int .u8 (f3q t)),.pl (.int .u8 (f3r t)),.pl (.int .u8 (f3s t)),.pl (.int .u8 (f3t t)),.pl (.int .u8 (f3u t)),.pl (.int .u8 (f3v t)),.pl (.int .u8 (f3w t)),.pl (.int .u8 (f3x t)),.pl (.int .u8 (f3y t)),.pl (.int .u8 (f3z t)),.pl (.int .u8 (f3A t)),.pl (.int .u8 (f3B t)),.pl (.int .u8 (f3C t)),.pl (.int .u8 (f3D t)),.pl (.int .u8 (f3E t)),.pl (.int .u8 (f3F t)),.pl (.int .u8 (f3a t_2)),.pl (.int .u8 (f3b t_2)),.pl (.int .u8 (f3c t_2)),.pl (.int .u8 (f3d t_2)),.pl (.int .u8 (f3e t_2)),.pl (.int .u8 (f3f t_2)),.pl (.int .u8 (f3g t_2)),.pl (.int .u8 (f3h t_2)),.pl (.int .u8 (f3i t_2)),.pl (.int .u8 (f3j t_2)),.pl (.int .u8 (f3k t_2)),.pl (.int .u8 (f3l t_2)),.pl (.int .u8 (f3m t_2)),.pl (.int .u8 (f3n t_2)),.pl (.int .u8 (f3o t_2)),.pl (.int .u8 (f3p t_2)),.pl (.int .u8 (f3q t_2)),.pl (.int .u8 (f3r t_2)),.pl (.int .u8 (f3s t_2)),.pl (.int .u8 (f3t t_2)),.pl (.int .u8 (f3u t_2)),.pl (.int .u8 (f3v t_2)),.pl (.int .u8 (f3w t_2)),.pl (.int .u8 (f3x t_2)),.pl (.int .u8 (f3y t_2)),.pl (.int .u8 (f3z t_2)),.pl (.int .u8 (f3A t_2)),.pl (.int .u8 (f3B t_2)),.pl (.int .u8 (f3C t_2)),.pl (.int .u8 (f3D t_2)),.pl (.int .u8 (f3E t_2)),.pl (.int .u8 (f3F t_2))])]).bind fun t=>bif decide (f4b t=(9:Int)) then (R5 [.str [(97:UInt8)],.str [(98:UInt8)]]).bind fun t=>some (AV.bool (decide ((↑(List.length (f5a t)):Int)=(64:Int)))) else some (AV.bool false):=by kernel_rfl
end
section
variable (T0:Type) (R0:List AV->Option T0) (T1:Type) (R1:List AV->Option T1) (f1a f1b f1c f1d f1e f1f f1g f1h:T1->Int) (T2:Type) (R2:List AV->Option T2) (f2a:T2->Bool) (T3:Type) (R3:List AV->Option T3) (f3a:T3->List Int) (T4:Type) (R4:List AV->Option T4) (f4a:T4->List Int) (T5:Type) (R5:List AV->Option T5) (f5a f5b f5c f5d f5e f5f f5g f5h f5i f5j f5k f5l f5m f5n f5o f5p f5q f5r f5s f5t f5u f5v f5w f5x f5y f5z f5A f5B f5C f5D f5E f5F:T5->Int) (T6:Type) (R6:List AV->Option T6) (f6a:T6->Str) (f6b:T6->Int) (T7:Type) (R7:List AV->Option T7) (f7a:T7->Str) (f7b:T7->Int) (T8:Type) (R8:List AV->Option T8) (f8a:T8->Str) (f8b:T8->Int)
def g_AkM:Cg:=⟨⟨gam [(nF17,⟨R0,fun t=>AV.bool (true)⟩),(nF7,⟨R1,fun t=>AV.agg (.ints .u64 [(f1a t),(f1b t),(f1c t),(f1d t),(f1e t),(f1f t),(f1g t),(f1h t)]) 8⟩),(nF9,⟨R2,fun t=>AV.bool (f2a t)⟩),(nF22,⟨R3,fun t=>AV.agg (.ints .u64 (f3a t)) 20⟩),(nF23,⟨R4,fun t=>AV.agg (.ints .u64 (f4a t)) 20⟩),(nF13,⟨R5,fun t=>AV.agg (.ints .u8 [(f5a t),(f5b t),(f5c t),(f5d t),(f5e t),(f5f t),(f5g t),(f5h t),(f5i t),(f5j t),(f5k t),(f5l t),(f5m t),(f5n t),(f5o t),(f5p t),(f5q t),(f5r t),(f5s t),(f5t t),(f5u t),(f5v t),(f5w t),(f5x t),(f5y t),(f5z t),(f5A t),(f5B t),(f5C t),(f5D t),(f5E t),(f5F t)]) 32⟩),(nF24,⟨R6,fun t=>AV.tup [.s (.pl (.str (f6a t))),.s (.pl (.int .i64 (f6b t)))]⟩),(nF25,⟨R7,fun t=>AV.tup [.s (.pl (.str (f7a t))),.s (.pl (.int .i64 (f7b t)))]⟩),(nF26,⟨R8,fun t=>AV.tup [.s (.pl (.str (f8a t))),.s (.pl (.int .i64 (f8b t)))]⟩)],[],noE⟩,[]⟩
theorem AkM_ev (fu:Nat) (a b c d x:List Int):afunc prog f_opalinelaw13_AkeMeets (g_AkM T0 R0 T1 R1 f1a f1b f1c f1d f1e f1f f1g f1h T2 R2 f2a T3 R3 f3a T4 R4 f4a T5 R5 f5a f5b f5c f5d f5e f5f f5g f5h f5i f5j f5k f5l f5m f5n f5o f5p f5q f5r f5s f5t f5u f5v f5w f5x f5y f5z f5A f5B f5C f5D f5E f5F T6 R6 f6a f6b T7 R7 f7a f7b T8 R8 f8a f8b) fu [.agg (.ints .u8 a) 32,.agg (.ints .u8 b) 32,.agg (.ints .u8 c) 32,.agg (.ints .u8 d) 32,.agg (.ints .u8 x) 32]=(R0 []).bind fun t=>(R1 [.agg (.ints .u8 a) 32]).bind fun t_1=>(R1 [.agg (.ints .u8 b) 32]).bind fun t_2=>(R1 [.agg (.ints .u8 c) 32]).bind fun t_3=>(R1 [.agg (.ints .u8 d) 32]).bind fun t_4=>(R1 [.agg (.ints .u8 x) 32]).bind fun t_5=>(R2 [.agg (.ints .u64 [f1a t_1,f1b t_1,f1c t_1,f1d t_1,f1e t_1,f1f t_1,f1g t_1,f1h t_1]) 8]).bind fun t_6=>bif f2a t_6 then some (AV.bool true) else (R2 [.agg (.ints .u64 [f1a t_2,f1b t_2,f1c t_2,f1d t_2,f1e t_2,f1f t_2,f1g t_2,f1h t_2]) 8]).bind fun t_7=>bif f2a t_7 then some (AV.bool true) else (R2 [.agg (.ints .u64 [f1a t_3,f1b t_3,f1c t_3,f1d t_3,f1e t_3,f1f t_3,f1g t_3,f1h t_3]) 8]).bind fun t_8=>bif f2a t_8 then some (AV.bool true) else (R2 [.agg (.ints .u64 [f1a t_4,f1b t_4,f1c t_4,f1d t_4,f1e t_4,f1f t_4,f1g t_4,f1h t_4]) 8]).bind fun t_9=>bif f2a t_9 then some (AV.bool true) else (R2 [.agg (.ints .u64 [f1a t_5,f1b t_5,f1c t_5,f1d t_5,f1e t_5,f1f t_5,f1g t_5,f1h t_5]) 8]).bind fun t_10=>bif f2a t_10 then some (AV.bool true) else (R3 []).bind fun t_11=>(R4 [.agg (.ints .u64 (f3a t_11)) 20,.agg (.ints .u64 [f1a t_3,f1b t_3,f1c t_3,f1d t_3,f1e t_3,f1f t_3,f1g t_3,f1h t_3]) 8]).bind fun t_12=>(R5 [.agg (.ints .u64 (f4a t_12)) 20]).bind fun t_13=>(R4 [.agg (.ints .u64 (f3a t_11)) 20,.agg (.ints .u64 [f1a t_4,f1b t_4,f1c t_4,f1d t_4,f1e t_4,f1f t_4,f1g t_4,f1h t_4]) 8]).bind fun t_14=>(R5 [.agg (.ints .u64 (f4a t_14)) 20]).bind fun t_15=>(R4 [.agg (.ints .u64 (f3a t_11)) 20,.agg (.ints .u64 [f1a t_1,f1b t_1,f1c t_1,f1d t_1,f1e t_1,f1f t_1,f1g t_1,f1h t_1]) 8]).bind fun t_16=>(R5 [.agg (.ints .u64 (f4a t_16)) 20]).bind fun t_17=>(R4 [.agg (.ints .u64 (f3a t_11)) 20,.agg (.ints .u64 [f1a t_2,f1b t_2,f1c t_2,f1d t_2,f1e t_2,f1f t_2,f1g t_2,f1h t_2]) 8]).bind fun t_18=>(R5 [.agg (.ints .u64 (f4a t_18)) 20]).bind fun t_19=>(R6 [.c (.mix [.pl (.int .u64 (f1a t_1)),.pl (.int .u64 (f1b t_1)),.pl (.int .u64 (f1c t_1)),.pl (.int .u64 (f1d t_1)),.pl (.int .u64 (f1e t_1)),.pl (.int .u64 (f1f t_1)),.pl (.int .u64 (f1g t_1)),.pl (.int .u64 (f1h t_1)),.pl (.int .u64 (f1a t_2)),.pl (.int .u64 (f1b t_2)),.pl (.int .u64 (f1c t_2)),.pl (.int .u64 (f1d t_2)),.pl (.int .u64 (f1e t_2)),.pl (.int .u64 (f1f t_2)),.pl (.int .u64 (f1g t_2)),.pl (.int .u64 (f1h t_2)),.pl (.int .u8 (f5a t_13)),.pl (.int .u8 (f5b t_13)),.pl (.int .u8 (f5c t_13)),.pl (.int .u8 (f5d t_13)),.pl (.int .u8 (f5e t_13)),.pl (.int .u8 (f5f t_13)),.pl (.int .u8 (f5g t_13)),.pl (.int .u8 (f5h t_13)),.pl (.int .u8 (f5i t_13)),.pl (.int .u8 (f5j t_13)),.pl (.int .u8 (f5k t_13)),.pl (.int .u8 (f5l t_13)),.pl (.int .u8 (f5m t_13)),.pl (.int .u8 (f5n t_13)),.pl (.int .u8 (f5o t_13)),.pl (.int .u8 (f5p t_13)),.pl (.int .u8 (f5q t_13)),.pl (.int .u8 (f5r t_13)),.pl (.int .u8 (f5s t_13)),.pl (.int .u8 (f5t t_13)),.pl (.int .u8 (f5u t_13)),.pl (.int .u8 (f5v t_13)),.pl (.int .u8 (f5w t_13)),.pl (.int .u8 (f5x t_13)),.pl (.int .u8 (f5y t_13)),.pl (.int .u8 (f5z t_13)),.pl (.int .u8 (f5A t_13)),.pl (.int .u8 (f5B t_13)),.pl (.int .u8 (f5C t_13)),.pl (.int .u8 (f5D t_13)),.pl (.int .u8 (f5E t_13)),.pl (.int .u8 (f5F t_13)),.pl (.int .u8 (f5a t_15)),.pl (.int .u8 (f5b t_15)),.pl (.int .u8 (f5c t_15)),.pl (.int .u8 (f5d t_15)),.pl (.int .u8 (f5e t_15)),.pl (.int .u8 (f5f t_15)),.pl (.int .u8 (f5g t_15)),.pl (.int .u8 (f5h t_15)),.pl (.int .u8 (f5i t_15)),.pl (.int .u8 (f5j t_15)),.pl (.int .u8 (f5k t_15)),.pl (.int .u8 (f5l t_15)),.pl (.int .u8 (f5m t_15)),.pl (.int .u8 (f5n t_15)),.pl (.int .u8 (f5o t_15)),.pl (.int .u8 (f5p t_15)),.pl (.int .u8 (f5q t_15)),.pl (.int .u8 (f5r t_15)),.pl (.int .u8 (f5s t_15)),.pl (.int .u8 (f5t t_15)),.pl (.int .u8 (f5u t_15)),.pl (.int .u8 (f5v t_15)),.pl (.int .u8 (f5w t_15)),.pl (.int .u8 (f5x t_15)),.pl (.int .u8 (f5y t_15)),.pl (.int .u8 (f5z t_15)),.pl (.int .u8 (f5A t_15)),.pl (.int .u8 (f5B t_15)),.pl (.int .u8 (f5C t_15)),.pl (.int .u8 (f5D t_15)),.pl (.int .u8 (f5E t_15)),.pl (.int .u8 (f5F t_15))])]).bind fun t_20=>(R7 [.c (.mix [.pl (.int .u64 (f1a t_3)),.pl (.int .u64 (f1b t_3)),.pl (.int .u64 (f1c t_3)),.pl (.int .u64 (f1d t_3)),.pl (.int .u64 (f1e t_3)),.pl (.int .u64 (f1f t_3)),.pl (.int .u64 (f1g t_3)),.pl (.int .u64 (f1h t_3)),.pl (.int .u64 (f1a t_4)),.pl (.int .u64 (f1b t_4)),.pl (.int .u64 (f1c t_4)),.pl (.int .u64 (f1d t_4)),.pl (.int .u64 (f1e t_4)),.pl (.int .u64 (f1f t_4)),.pl (.int .u64 (f1g t_4)),.pl (.int .u64 (f1h t_4)),.pl (.int .u8 (f5a t_17)),.pl (.int .u8 (f5b t_17)),.pl (.int .u8 (f5c t_17)),.pl (.int .u8 (f5d t_17)),.pl (.int .u8 (f5e t_17)),.pl (.int .u8 (f5f t_17)),.pl (.int .u8 (f5g t_17)),.pl (.int .u8 (f5h t_17)),.pl (.int .u8 (f5i t_17)),.pl (.int .u8 (f5j t_17)),.pl (.int .u8 (f5k t_17)),.pl (.int .u8 (f5l t_17)),.pl (.int .u8 (f5m t_17)),.pl (.int .u8 (f5n t_17)),.pl (.int .u8 (f5o t_17)),.pl (.int .u8 (f5p t_17)),.pl (.int .u8 (f5q t_17)),.pl (.int .u8 (f5r t_17)),.pl (.int .u8 (f5s t_17)),.pl (.int .u8 (f5t t_17)),.pl (.int .u8 (f5u t_17)),.pl (.int .u8 (f5v t_17)),.pl (.int .u8 (f5w t_17)),.pl (.int .u8 (f5x t_17)),.pl (.int .u8 (f5y t_17)),.pl (.int .u8 (f5z t_17)),.pl (.int .u8 (f5A t_17)),.pl (.int .u8 (f5B t_17)),.pl (.int .u8 (f5C t_17)),.pl (.int .u8 (f5D t_17)),.pl (.int .u8 (f5E t_17)),.pl (.int .u8 (f5F t_17)),.pl (.int .u8 (f5a t_19)),.pl (.int .u8 (f5b t_19)),.pl (.int .u8 (f5c t_19)),.pl (.int .u8 (f5d t_19)),.pl (.int .u8 (f5e t_19)),.pl (.int .u8 (f5f t_19)),.pl (.int .u8 (f5g t_19)),.pl (.int .u8 (f5h t_19)),.pl (.int .u8 (f5i t_19)),.pl (.int .u8 (f5j t_19)),.pl (.int .u8 (f5k t_19)),.pl (.int .u8 (f5l t_19)),.pl (.int .u8 (f5m t_19)),.pl (.int .u8 (f5n t_19)),.pl (.int .u8 (f5o t_19)),.pl (.int .u8 (f5p t_19)),.pl (.int .u8 (f5q t_19)),.pl (.int .u8 (f5r t_19)),.pl (.int .u8 (f5s t_19)),.pl (.int .u8 (f5t t_19)),.pl (.int .u8 (f5u t_19)),.pl (.int .u8 (f5v t_19)),.pl (.int .u8 (f5w t_19)),.pl (.int .u8 (f5x t_19)),.pl (.int .u8 (f5y t_19)),.pl (.int .u8 (f5z t_19)),.pl (.int .u8 (f5A t_19)),.pl (.int .u8 (f5B t_19)),.pl (.int .u8 (f5C t_19)),.pl (.int .u8 (f5D t_19)),.pl (.int .u8 (f5E t_19)),.pl (.int .u8 (f5F t_19))])]).bind fun t_21=>(R6 [.c (.mix [.pl (.int .u64 (f1a t_1)),.pl (.int .u64 (f1b t_1)),.pl (.int .u64 (f1c t_1)),.pl (.int .u64 (f1d t_1)),.pl (.int .u64 (f1e t_1)),.pl (.int .u64 (f1f t_1)),.pl (.int .u64 (f1g t_1)),.pl (.int .u64 (f1h t_1)),.pl (.int .u64 (f1a t_5)),.pl (.int .u64 (f1b t_5)),.pl (.int .u64 (f1c t_5)),.pl (.int .u64 (f1d t_5)),.pl (.int .u64 (f1e t_5)),.pl (.int .u64 (f1f t_5)),.pl (.int .u64 (f1g t_5)),.pl (.int .u64 (f1h t_5)),.pl (.int .u8 (f5a t_13)),.pl (.int .u8 (f5b t_13)),.pl (.int .u8 (f5c t_13)),.pl (.int .u8 (f5d t_13)),.pl (.int .u8 (f5e t_13)),.pl (.int .u8 (f5f t_13)),.pl (.int .u8 (f5g t_13)),.pl (.int .u8 (f5h t_13)),.pl (.int .u8 (f5i t_13)),.pl (.int .u8 (f5j t_13)),.pl (.int .u8 (f5k t_13)),.pl (.int .u8 (f5l t_13)),.pl (.int .u8 (f5m t_13)),.pl (.int .u8 (f5n t_13)),.pl (.int .u8 (f5o t_13)),.pl (.int .u8 (f5p t_13)),.pl (.int .u8 (f5q t_13)),.pl (.int .u8 (f5r t_13)),.pl (.int .u8 (f5s t_13)),.pl (.int .u8 (f5t t_13)),.pl (.int .u8 (f5u t_13)),.pl (.int .u8 (f5v t_13)),.pl (.int .u8 (f5w t_13)),.pl (.int .u8 (f5x t_13)),.pl (.int .u8 (f5y t_13)),.pl (.int .u8 (f5z t_13)),.pl (.int .u8 (f5A t_13)),.pl (.int .u8 (f5B t_13)),.pl (.int .u8 (f5C t_13)),.pl (.int .u8 (f5D t_13)),.pl (.int .u8 (f5E t_13)),.pl (.int .u8 (f5F t_13)),.pl (.int .u8 (f5a t_15)),.pl (.int .u8 (f5b t_15)),.pl (.int .u8 (f5c t_15)),.pl (.int .u8 (f5d t_15)),.pl (.int .u8 (f5e t_15)),.pl (.int .u8 (f5f t_15)),.pl (.int .u8 (f5g t_15)),.pl (.int .u8 (f5h t_15)),.pl (.int .u8 (f5i t_15)),.pl (.int .u8 (f5j t_15)),.pl (.int .u8 (f5k t_15)),.pl (.int .u8 (f5l t_15)),.pl (.int .u8 (f5m t_15)),.pl (.int .u8 (f5n t_15)),.pl (.int .u8 (f5o t_15)),.pl (.int .u8 (f5p t_15)),.pl (.int .u8 (f5q t_15)),.pl (.int .u8 (f5r t_15)),.pl (.int .u8 (f5s t_15)),.pl (.int .u8 (f5t t_15)),.pl (.int .u8 (f5u t_15)),.pl (.int .u8 (f5v t_15)),.pl (.int .u8 (f5w t_15)),.pl (.int .u8 (f5x t_15)),.pl (.int .u8 (f5y t_15)),.pl (.int .u8 (f5z t_15)),.pl (.int .u8 (f5A t_15)),.pl (.int .u8 (f5B t_15)),.pl (.int .u8 (f5C t_15)),.pl (.int .u8 (f5D t_15)),.pl (.int .u8 (f5E t_15)),.pl (.int .u8 (f5F t_15))])]).bind fun t_22=>(R7 [.c (.mix [.pl (.int .u64 (f1a t_3)),.pl (.int .u64 (f1b t_3)),.pl (.int .u64 (f1c t_3)),.pl (.int .u64 (f1d t_3)),.pl (.int .u64 (f1e t_3)),.pl (.int .u64 (f1f t_3)),.pl (.int .u64 (f1g t_3)),.pl (.int .u64 (f1h t_3)),.pl (.int .u64 (f1a t_5)),.pl (.int .u64 (f1b t_5)),.pl (.int .u64 (f1c t_5)),.pl (.int .u64 (f1d t_5)),.pl (.int .u64 (f1e t_5)),.pl (.int .u64 (f1f t_5)),.pl (.int .u64 (f1g t_5)),.pl (.int .u64 (f1h t_5)),.pl (.int .u8 (f5a t_17)),.pl (.int .u8 (f5b t_17)),.pl (.int .u8 (f5c t_17)),.pl (.int .u8 (f5d t_17)),.pl (.int .u8 (f5e t_17)),.pl (.int .u8 (f5f t_17)),.pl (.int .u8 (f5g t_17)),.pl (.int .u8 (f5h t_17)),.pl (.int .u8 (f5i t_17)),.pl (.int .u8 (f5j t_17)),.pl (.int .u8 (f5k t_17)),.pl (.int .u8 (f5l t_17)),.pl (.int .u8 (f5m t_17)),.pl (.int .u8 (f5n t_17)),.pl (.int .u8 (f5o t_17)),.pl (.int .u8 (f5p t_17)),.pl (.int .u8 (f5q t_17)),.pl (.int .u8 (f5r t_17)),.pl (.int .u8 (f5s t_17)),.pl (.int .u8 (f5t t_17)),.pl (.int .u8 (f5u t_17)),.pl (.int .u8 (f5v t_17)),.pl (.int .u8 (f5w t_17)),.pl (.int .u8 (f5x t_17)),.pl (.int .u8 (f5y t_17)),.pl (.int .u8 (f5z t_17)),.pl (.int .u8 (f5A t_17)),.pl (.int .u8 (f5B t_17)),.pl (.int .u8 (f5C t_17)),.pl (.int .u8 (f5D t_17)),.pl (.int .u8 (f5E t_17)),.pl (.int .u8 (f5F t_17)),.pl (.int .u8 (f5a t_19)),.pl (.int .u8 (f5b t_19)),.pl (.int .u8 (f5c t_19)),.pl (.int .u8 (f5d t_19)),.pl (.int .u8 (f5e t_19)),.pl (.int .u8 (f5f t_19)),.pl (.int .u8 (f5g t_19)),.pl (.int .u8 (f5h t_19)),.pl (.int .u8 (f5i t_19)),.pl (.int .u8 (f5j t_19)),.pl (.int .u8 (f5k t_19)),.pl (.int .u8 (f5l t_19)),.pl (.int .u8 (f5m t_19)),.pl (.int .u8 (f5n t_19)),.pl (.int .u8 (f5o t_19)),.pl (.int .u8 (f5p t_19)),.pl (.int .u8 (f5q t_19)),.pl (.int .u8 (f5r t_19)),.pl (.int .u8 (f5s t_19)),.pl (.int .u8 (f5t t_19)),.pl (.int .u8 (f5u t_19)),.pl (.int .u8 (f5v t_19)),.pl (.int .u8 (f5w t_19)),.pl (.int .u8 (f5x t_19)),.pl (.int .u8 (f5y t_19)),.pl (.int .u8 (f5z t_19)),.pl (.int .u8 (f5A t_19)),.pl (.int .u8 (f5B t_19)),.pl (.int .u8 (f5C t_19)),.pl (.int .u8 (f5D t_19)),.pl (.int .u8 (f5E t_19)),.pl (.int .u8 (f5F t_19))])]).bind fun t_23=>(R8 [.c (CV.mdat [])]).bind fun t_24=>bif decide (f6b t_20=(0:Int)) && decide (f7b t_21=(0:Int)) && decide (f6b t_22=(0:Int)) && decide (f7b t_23=(0:Int)) && decide (f8b t_24=(0:Int)) && decide (f6a t_20=f7a t_21) then bif decide ((↑(List.length (f6a t_20)):Int)=(96:Int)) then bif decide (f6a t_22=f6a t_20) == decide ([f1a t_5,f1b t_5,f1c t_5,f1d t_5,f1e t_5,f1f t_5,f1g t_5,f1h t_5]=[f1a t_2,f1b t_2,f1c t_2,f1d t_2,f1e t_2,f1f t_2,f1g t_2,f1h t_2]) then some (AV.bool (decide (f7a t_23=f6a t_20) == decide ([f1a t_5,f1b t_5,f1c t_5,f1d t_5,f1e t_5,f1f t_5,f1g t_5,f1h t_5]=[f1a t_4,f1b t_4,f1c t_4,f1d t_4,f1e t_4,f1f t_4,f1g t_4,f1h t_4]))) else some (AV.bool false) else some (AV.bool false) else some (AV.bool false):=by kernel_rfl
end
set_option maxRecDepth 4000
abbrev gI_AkE:Cg:=g_AkE (List UInt8) rHmac (fun t=>t)
theorem gok_AkE:CfOk prog gI_AkE.c:=⟨gam_cons ok_Hmac <| gam_nil,fun _ _ h=>by cases h⟩
theorem ok_Extract:CallOk prog nF65 sHmac:=by
 refine afunc_okE (g:=gI_AkE) (fu:=fun _=>0) mixed gok_AkE hF65 (by kernel_rfl) ?_
 intro args t ht
 unfold sHmac at ht
 simp only at ht
 split at ht
 ·rename_i k ss n
  obtain ⟨h1,h2⟩:=ctrueS ht
  subst h2
  rw [Bool.and_eq_true] at h1
  refine (AkE_ev ..).trans ?_
  refine bstep (run_Hmac h1.1 h1.2) ?_
  rfl
 ·cases ht
theorem okJ_Sum {ss:List Str} {n:Nat} (h:okJ ss n=true):okSum ss n=true:=by
 unfold okJ at h
 rw [Bool.and_eq_true,Bool.and_eq_true,Nat.ble_eq,Nat.ble_eq] at h
 unfold okSum
 rw [h.1.1,ble_of (show ss.length <= 1048576 by have:=h.1.2; omega),ble_of (show (Lib.join ss []).length <= 1099511627776 by have:=h.2; omega)]; rfl
abbrev gI_AkU:Cg:=g_AkU (List Nat) rSum (fun t=>up t)
theorem gok_AkU:CfOk prog gI_AkU.c:=⟨gam_cons ok_Sum <| gam_nil,fun _ _ h=>by cases h⟩
theorem ok_AkSum:CallOk prog nF66 sXsum:=by
 refine afunc_okE (g:=gI_AkU) (fu:=fun _=>0) mixed gok_AkU hF66 (by kernel_rfl) ?_
 intro args t ht
 unfold sXsum at ht
 simp only at ht
 split at ht
 ·rename_i ss n
  obtain ⟨h1,h2⟩:=ctrueS ht
  subst h2
  refine (AkU_ev ..).trans ?_
  refine bstep (run_Sum h1) ?_
  rw [hS_take]; rfl
 ·cases ht
theorem run_AkSum {ss:List Str} {n:Nat} (h:okSum ss n=true):rXsum [.s (.dat (.strs ss) n 1)]=some (hS (Lib.join ss [])):=by
 show cond (okSum ss n) (some (hS (Lib.join ss []))) none=_
 rw [h]; rfl
theorem okJ1 {s:Str} (h:s.length <= 1099511620000):okJ [s] 1=true:=by
 show (Nat.beq 1 1 && Nat.ble 1 1048000 && Nat.ble (Lib.join [s] []).length 1099511620000)=true
 rw [Lib.join_one,ble_of h]; rfl
theorem okSum1 {s:Str} (h:s.length <= 1099511620000):okSum [s] 1=true:=okJ_Sum (okJ1 h)
theorem joinT (s t:Str):Lib.join [s,t] []=s++t:=by rw [join_flat]; simp
theorem okSum2 {s t:Str} (h:s.length+t.length <= 1099511620000):okSum [s,t] 2=true:=by
 have j:=joinT s t
 show (Nat.beq 2 2 && Nat.ble 2 1048576 && Nat.ble (Lib.join [s,t] []).length 1099511627776)=true
 rw [j,List.length_append,ble_of (show s.length+t.length <= 1099511627776 by omega)]; rfl
theorem hmacS_len (k t:Str):(hmacS k t).length=64:=hS_len _
theorem labelA_len {k l c:Str} (hl:l.length <= 248) (hc:c.length <= 255):(labelA k l c 64).1.length=64:=by
 unfold labelA
 rw [if_neg (by omega),if_neg (by omega),if_neg (by omega)]
 exact expS_len _ _ _
theorem okL2_x {s:Str} (h:s.length <= 1000):okL2 s=true:=ble_of (by omega)
theorem okLen_of' {s:Str} (h:s.length <= 1099511620000):okLen s=true:=ble_of h
abbrev gI_AkD:Cg:=g_AkD (List UInt8) rHmac (fun t=>t) (List UInt8) rXsum (fun t=>t) (List UInt8) rSecret (fun t=>t) (List UInt8) rHmac (fun t=>t)
theorem gok_AkD:CfOk prog gI_AkD.c:=⟨gam_cons ok_Extract <| gam_cons ok_AkSum <| gam_cons ok_Secret <| gam_cons ok_Hmac <| gam_nil,fun _ _ h=>by cases h⟩
theorem ok_Derive:CallOk prog nF20 sDerive:=by
 refine afunc_okE (g:=gI_AkD) (fu:=fun _=>0) mixed gok_AkD hF20 (by kernel_rfl) ?_
 intro args t ht
 unfold sDerive at ht
 simp only at ht
 split at ht
 ·rename_i s p
  obtain ⟨h1,h2⟩:=ctrueS ht
  subst h2
  rw [Bool.and_eq_true,Nat.ble_eq,Nat.ble_eq] at h1
  obtain ⟨hs,hp⟩:=h1
  have j1:=run_Hmac (k:=[]) (ss:=[s]) (n:=1) rfl (okJ1 (by omega))
  rw [Lib.join_one] at j1
  have j1:rHmac [.str [],.s (.dat (.strs [s]) 1 1)]=some (drPrk s):=j1
  have j2:=run_AkSum (ss:=[p]) (n:=1) (okSum1 (by omega))
  rw [Lib.join_one] at j2
  have l0:(drPrk s).length=64:=hmacS_len _ _
  have lp:(hS p).length=64:=hS_len _
  have j3:rSecret [.str (drPrk s),.str [72,97,110,100,115,104,97,107,101,83,101,99,114,101,116],.str (hS p)]=some (drHand s p):=run_Secret (okLen_of' (by omega)) (okL2_x (by decide)) (okL2_x (by omega))
  have lh:(drHand s p).length=64:=labelA_len (by decide) (by omega)
  have j4:=run_Secret (k:=drHand s p) (l:=[83,101,114,118,101,114,77,65,67]) (c:=[]) (okLen_of' (by omega)) (okL2_x (by decide)) (okL2_x (by decide))
  have l4:(labelA (drHand s p) [83,101,114,118,101,114,77,65,67] [] 64).1.length=64:=labelA_len (by decide) (by decide)
  have j5:=run_Hmac (k:=(labelA (drHand s p) [83,101,114,118,101,114,77,65,67] [] 64).1) (ss:=[hS p]) (n:=1) (okLen_of' (by omega)) (okJ1 (by omega))
  rw [Lib.join_one] at j5
  have j5:rHmac [.str (labelA (drHand s p) [83,101,114,118,101,114,77,65,67] [] 64).1,.s (.dat (.strs [hS p]) 1 1)]=some (drSrv s p):=j5
  have l5:(drSrv s p).length=64:=hmacS_len _ _
  have j6:=run_Secret (k:=drHand s p) (l:=[67,108,105,101,110,116,77,65,67]) (c:=[]) (okLen_of' (by omega)) (okL2_x (by decide)) (okL2_x (by decide))
  have l6:(labelA (drHand s p) [67,108,105,101,110,116,77,65,67] [] 64).1.length=64:=labelA_len (by decide) (by decide)
  have j7:=run_AkSum (ss:=[p,drSrv s p]) (n:=2) (okSum2 (by omega))
  rw [joinT] at j7
  have l7:(hS (p++drSrv s p)).length=64:=hS_len _
  have j8:=run_Hmac (k:=(labelA (drHand s p) [67,108,105,101,110,116,77,65,67] [] 64).1) (ss:=[hS (p++drSrv s p)]) (n:=1) (okLen_of' (by omega)) (okJ1 (by omega))
  rw [Lib.join_one] at j8
  have j8:rHmac [.str (labelA (drHand s p) [67,108,105,101,110,116,77,65,67] [] 64).1,.s (.dat (.strs [hS (p++drSrv s p)]) 1 1)]=some (drCli s p):=j8
  have j9:rSecret [.str (drPrk s),.str [83,101,115,115,105,111,110,75,101,121],.str (hS p)]=some (drSes s p):=run_Secret (okLen_of' (by omega)) (okL2_x (by decide)) (okL2_x (by omega))
  refine (AkD_ev ..).trans ?_
  show _=some (AV.agg (.strs [drSes s p,drSrv s p,drCli s p]) 3)
  generalize drSes s p=v9 at *
  generalize drCli s p=v8 at *
  generalize hS (p++drSrv s p)=v7 at *
  generalize drSrv s p=v5 at *
  generalize (labelA (drHand s p) [67,108,105,101,110,116,77,65,67] [] 64).1=v6 at *
  generalize (labelA (drHand s p) [83,101,114,118,101,114,77,65,67] [] 64).1=v4 at *
  generalize drHand s p=v3 at *
  generalize hS p=v2 at *
  generalize drPrk s=v1 at *
  refine bstep j1 ?_
  refine bstep j2 ?_
  refine bstep j3 ?_
  refine bstep j4 ?_
  refine bstep j5 ?_
  refine bstep j6 ?_
  refine bstep j7 ?_
  refine bstep j8 ?_
  refine bstep j9 ?_
  rfl
 ·cases ht
theorem run_Derive {s p:Str} (hs:s.length <= 1099511000000) (hp:p.length <= 1099511000000):rDerive [.str s,.str p]=some (drSes s p,drSrv s p,drCli s p):=by
 show cond (Nat.ble s.length 1099511000000 && Nat.ble p.length 1099511000000) (some (drSes s p,drSrv s p,drCli s p)) none=_
 rw [ble_of hs,ble_of hp]; rfl
theorem drSes_len (s p:Str):(drSes s p).length=64:=labelA_len (by decide) (by rw [hS_len]; decide)
theorem ok_EBytesN:CallOk prog nF13 sEBytesN:=by
 intro args t ht
 obtain ⟨p,e,hp,et⟩:=runP1_ok (F:=fun p=>fv (bytesF p)%P25) ht
 subst e et
 exact ok_EBytes [eP p] (lo 32 (fv (bytesF p)%P25)) (run_EBytes hp)
theorem run_EBytesN {p:Pt} (h:pOk p):rEBytesN [eP p]=some (fv (bytesF p)%P25):=run_P1 (fun p=>fv (bytesF p)%P25) h
theorem intsW_map (e:List Int):intsW (e.map fun n=>SV.pl (.int .u64 n))=some e:=by
 induction e with
 | nil=>rfl
 | cons x r ih=>rw [List.map_cons,intsW,ih]
theorem intsB_map (e:List Int):intsB (e.map fun n=>SV.pl (.int .u8 n))=some e:=by
 induction e with
 | nil=>rfl
 | cons x r ih=>rw [List.map_cons,intsB,ih]
theorem run_Side {T:Type} (F:List Int->List Int->List Int->List Int->T) {e o s t:List Int} (c1:ok8 e=true) (c2:ok8 o=true) (c3:ok32 s=true) (c4:ok32 t=true):runSide F [sideC e o s t]=some (F e o s t):=by
 have l1:=ok8_len c1
 have l2:=ok8_len c2
 have l3:=(ok32_ok c3).1
 have l4:=(ok32_ok c4).1
 unfold sideC runSide
 generalize hE:e.map (fun n=>SV.pl (.int .u64 n))=E
 generalize hO:o.map (fun n=>SV.pl (.int .u64 n))=O
 generalize hS:s.map (fun n=>SV.pl (.int .u8 n))=S
 generalize hT:t.map (fun n=>SV.pl (.int .u8 n))=T'
 have m1:E.length=8:=by rw [<-hE,List.length_map,l1]
 have m2:O.length=8:=by rw [<-hO,List.length_map,l2]
 have m3:S.length=32:=by rw [<-hS,List.length_map,l3]
 have t1:(E++(O++(S++T'))).take 8=E:=List.take_left' m1
 have d1:(E++(O++(S++T'))).drop 8=O++(S++T'):=List.drop_left' m1
 have d2:(E++(O++(S++T'))).drop 16=S++T':=by
  have:(E++(O++(S++T'))).drop (8+8)=S++T':=by rw [<-List.drop_drop,d1]; exact List.drop_left' m2
  exact this
 have d3:(E++(O++(S++T'))).drop 48=T':=by
  have:(E++(O++(S++T'))).drop (16+32)=T':=by rw [<-List.drop_drop,d2]; exact List.drop_left' m3
  exact this
 simp only [t1,d1,d2,d3,List.take_left' m2,List.take_left' m3]
 rw [<-hE,<-hO,<-hS,<-hT,intsW_map,intsW_map,intsB_map,intsB_map]
 simp only [c1,c2,c3,c4,Bool.and_self,cond_true]
theorem run_Client {e o s t:List Int} (c1:ok8 e=true) (c2:ok8 o=true) (c3:ok32 s=true) (c4:ok32 t=true):rClient [sideC e o s t]=some (threeK e s e t o s):=run_Side _ c1 c2 c3 c4
theorem run_Server {e o s t:List Int} (c1:ok8 e=true) (c2:ok8 o=true) (c3:ok32 s=true) (c4:ok32 t=true):rServer [sideC e o s t]=some (threeK e s o s e t):=run_Side _ c1 c2 c3 c4
abbrev zer8:List Int:=List.replicate 8 0
theorem base_e4:¬ e4 gB:=fun z=>by
 have:=(none_eq PT_base).2 z
 rw [base_some] at this
 cases this
theorem eval_0:evalA 0 (byP baseP)=(zer32,9):=by
 obtain ⟨q,h,_,e,_,_,_⟩:=read_some PT_base gB_ev base_e4
 rw [evalA_eq,e]; rfl
abbrev gI_AkX:Cg:=g_AkX (PUnit) rTrue
theorem gok_AkX:CfOk prog gI_AkX.c:=⟨gam_cons ok_awake10 <| gam_nil,fun _ _ h=>by cases h⟩
theorem ok_Awake10:CallOk prog nF62 sTrue:=by
 refine afunc_okE (g:=gI_AkX) (fu:=fun _=>0) mixed gok_AkX hF62 (by kernel_rfl) ?_
 intro args t ht
 unfold sTrue at ht
 simp only at ht
 split at ht
 ·exact AkX_ev ..
 ·cases ht
abbrev gI_AkA:Cg:=g_AkA (PUnit) rTrue (PUnit) rTrue (Pt) rBase (fun t=>[↑t.x.a,↑t.x.b,↑t.x.c,↑t.x.d,↑t.x.e,↑t.y.a,↑t.y.b,↑t.y.c,↑t.y.d,↑t.y.e,↑t.z.a,↑t.z.b,↑t.z.c,↑t.z.d,↑t.z.e,↑t.t.a,↑t.t.b,↑t.t.c,↑t.t.d,↑t.t.e]) (Nat) rEBytesN (fun t=>(lo 32 t).getD 0 0) (fun t=>(lo 32 t).getD 1 0) (fun t=>(lo 32 t).getD 2 0) (fun t=>(lo 32 t).getD 3 0) (fun t=>(lo 32 t).getD 4 0) (fun t=>(lo 32 t).getD 5 0) (fun t=>(lo 32 t).getD 6 0) (fun t=>(lo 32 t).getD 7 0) (fun t=>(lo 32 t).getD 8 0) (fun t=>(lo 32 t).getD 9 0) (fun t=>(lo 32 t).getD 10 0) (fun t=>(lo 32 t).getD 11 0) (fun t=>(lo 32 t).getD 12 0) (fun t=>(lo 32 t).getD 13 0) (fun t=>(lo 32 t).getD 14 0) (fun t=>(lo 32 t).getD 15 0) (fun t=>(lo 32 t).getD 16 0) (fun t=>(lo 32 t).getD 17 0) (fun t=>(lo 32 t).getD 18 0) (fun t=>(lo 32 t).getD 19 0) (fun t=>(lo 32 t).getD 20 0) (fun t=>(lo 32 t).getD 21 0) (fun t=>(lo 32 t).getD 22 0) (fun t=>(lo 32 t).getD 23 0) (fun t=>(lo 32 t).getD 24 0) (fun t=>(lo 32 t).getD 25 0) (fun t=>(lo 32 t).getD 26 0) (fun t=>(lo 32 t).getD 27 0) (fun t=>(lo 32 t).getD 28 0) (fun t=>(lo 32 t).getD 29 0) (fun t=>(lo 32 t).getD 30 0) (fun t=>(lo 32 t).getD 31 0) (Str × Int) rClient (fun t=>t.fst) (fun t=>t.snd) (Str × Str × Str) rDerive (fun t=>t.fst) (fun t=>t.snd.fst) (fun t=>t.snd.snd)
theorem gok_AkA:CfOk prog gI_AkA.c:=⟨gam_cons ok_Awake03 <| gam_cons ok_Awake10 <| gam_cons ok_EBase <| gam_cons ok_EBytesN <| gam_cons ok_Client <| gam_cons ok_Derive <| gam_nil,fun _ _ h=>by cases h⟩
theorem ok_awake13:CallOk prog nF17 sTrue:=by
 refine afunc_okE (g:=gI_AkA) (fu:=fun _=>0) mixed gok_AkA hF17 (by kernel_rfl) ?_
 intro args t ht
 unfold sTrue at ht
 simp only at ht
 split at ht
 case h_2=>cases ht
 have o:=run_Base
 have b:=run_EBytesN base_ok
 have ob:ok32 (lo 32 (fv (bytesF baseP)%P25))=true:=ok32_loL _
 have c:=run_Client (e:=zer8) (o:=zer8) (by decide) (by decide) ob ob
 have e0:evalA 0 (lo 32 (fv (bytesF baseP)%P25))=(zer32,9):=eval_0
 have v0:val zer8=0:=by decide
 have th:threeK zer8 (lo 32 (fv (bytesF baseP)%P25)) zer8 (lo 32 (fv (bytesF baseP)%P25)) zer8 (lo 32 (fv (bytesF baseP)%P25))=([],9):=by
  unfold threeK
  rw [v0,e0]; rfl
 rw [th] at c
 have d:=run_Derive (s:=[97]) (p:=[98]) (by decide) (by decide)
 have ld:=drSes_len [97] [98]
 generalize drSes [97] [98]=v1 at *
 generalize drSrv [97] [98]=v2 at *
 generalize drCli [97] [98]=v3 at *
 generalize fv (bytesF baseP)%P25=N at *
 generalize baseP=Bp at *
 refine (AkA_ev ..).trans ?_
 refine bstep (show rTrue []=some () from rfl) ?_
 refine bstep (show rTrue []=some () from rfl) ?_
 refine bstep o ?_
 refine bstep b ?_
 refine bstep o ?_
 refine bstep b ?_
 refine bstep c ?_
 refine cstep (decide_eq_true rfl) ?_
 refine bstep d ?_
 show some (AV.bool (decide (((v1.length:Nat):Int)=64)))=_
 rw [decide_eq_true (by omega)]; rfl
end
end Go.Eng
