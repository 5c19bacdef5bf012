import Derived.Test.YteipjabipehbpaaGreatZO1
namespace Go.Eng
open Go.IntKind (u64 i64 u8)
noncomputable section
open Go Go.Proofs
set_option linter.all false
section
variable (T0:Type) (R0:List AV->Option T0)
def g_OAw8:Cg:=⟨⟨gam [(nF77,⟨R0,fun t=>AV.bool (true)⟩)],[],noE⟩,[]⟩
theorem OAw8_ev (fu:Nat):afunc prog fF29 (g_OAw8 T0 R0) fu []=(R0 []).bind fun t=>some (AV.bool true):=by kernel_rfl
end
section
variable (T0:Type) (R0:List AV->Option T0) (T1:Type) (R1:List AV->Option T1) (T2:Type) (R2:List AV->Option T2) (T3:Type) (R3:List AV->Option T3) (f3a:T3->List Int) (T4:Type) (R4:List AV->Option T4) (f4a:T4->List Int) (f4b:T4->Int) (T5:Type) (R5:List AV->Option T5) (f5a:T5->List Int) (T6:Type) (R6:List AV->Option T6) (f6a:T6->List Int) (f6b:T6->Int) (T7:Type) (R7:List AV->Option T7) (f7a:T7->Str) (f7b:T7->Int) (T8:Type) (R8:List AV->Option T8) (f8a:T8->Str) (f8b:T8->Int)
def g_OAw:Cg:=⟨⟨gam [(nF27,⟨R0,fun t=>AV.bool (true)⟩),(nF28,⟨R1,fun t=>AV.bool (true)⟩),(nF29,⟨R2,fun t=>AV.bool (true)⟩),(nF31,⟨R3,fun t=>AV.agg (.ints .u64 (f3a t)) 8⟩),(nF30,⟨R4,fun t=>AV.tup [.s (.pl (.agg (.ints .u64 (f4a t)) 20)),.s (.pl (.int .i64 (f4b t)))]⟩),(nF13,⟨R5,fun t=>AV.agg (.ints .u8 (f5a t)) 32⟩),(nF12,⟨R6,fun t=>AV.tup [.s (.pl (.agg (.ints .u8 (f6a t)) 32)),.s (.pl (.int .i64 (f6b t)))]⟩),(nF32,⟨R7,fun t=>AV.tup [.s (.pl (.str (f7a t))),.s (.pl (.int .i64 (f7b t)))]⟩),(nF33,⟨R8,fun t=>AV.tup [.s (.pl (.str (f8a t))),.s (.pl (.int .i64 (f8b t)))]⟩)],[],noE⟩,[]⟩
theorem OAw_ev (fu:Nat):afunc prog fF6 (g_OAw T0 R0 T1 R1 T2 R2 T3 R3 f3a T4 R4 f4a f4b T5 R5 f5a T6 R6 f6a f6b T7 R7 f7a f7b T8 R8 f8a f8b) fu []=(R0 []).bind fun t=>(R1 []).bind fun t=>(R2 []).bind fun t=>(R3 [.int .u64 (0:Int)]).bind fun t=>(R4 [.str [(97:UInt8)],.agg (.ints .u64 (f3a t)) 8]).bind fun t=>(R3 [.int .u64 (3:Int)]).bind fun t_1=>(R4 [.str [(97:UInt8)],.agg (.ints .u64 (f3a t_1)) 8]).bind fun t_2=>(R3 [.int .u64 (5:Int)]).bind fun t_3=>(R5 [.agg (.ints .u64 (f4a t_2)) 20]).bind fun t_4=>(R6 [.agg (.ints .u64 (f3a t_3)) 8,.agg (.ints .u8 (f5a t_4)) 32]).bind fun t_5=>(R3 [.int .u64 (3:Int)]).bind fun t_6=>(R7 [.str [(97:UInt8)],.agg (.ints .u64 (f3a t_6)) 8,.agg (.ints .u8 (f6a t_5)) 32]).bind fun t_7=>(R3 [.int .u64 (5:Int)]).bind fun t_8=>(R8 [.agg (.ints .u64 (f3a t_8)) 8,.str [(97:UInt8)]]).bind fun t_9=>bif decide (f4b t=(9:Int)) && decide (f4b t_2=(0:Int)) && decide (f6b t_5=(0:Int)) && decide (f7b t_7=(0:Int)) && decide (f8b t_9=(0:Int)) && decide (f7a t_7=f8a t_9) then some (AV.bool (decide ((↑(List.length (f7a t_7)):Int)=(64:Int)))) else some (AV.bool false):=by kernel_rfl
end
section
variable (T0:Type) (R0:List AV->Option T0) (T1:Type) (R1:List AV->Option T1) (f1a:T1->List Int) (T2:Type) (R2:List AV->Option T2) (f2a:T2->List Int) (T3:Type) (R3:List AV->Option T3) (f3a:T3->Bool) (T4:Type) (R4:List AV->Option T4) (f4a:T4->List Int) (T5:Type) (R5:List AV->Option T5) (f5a:T5->Bool) (T6:Type) (R6:List AV->Option T6) (f6a:T6->List Int) (T7:Type) (R7:List AV->Option T7) (f7a:T7->List Int) (f7b:T7->Int) (T8:Type) (R8:List AV->Option T8) (f8a:T8->List Int) (T9:Type) (R9:List AV->Option T9) (f9a:T9->List Int) (f9b:T9->Int) (T10:Type) (R10:List AV->Option T10) (f10a:T10->List Int)
def g_OLA:Cg:=⟨⟨gam [(nF6,⟨R0,fun t=>AV.bool (true)⟩),(nF7,⟨R1,fun t=>AV.agg (.ints .u64 (f1a t)) 8⟩),(nF8,⟨R2,fun t=>AV.agg (.ints .u64 (f2a t)) 20⟩),(nF9,⟨R3,fun t=>AV.bool (f3a t)⟩),(nF10,⟨R4,fun t=>AV.agg (.ints .u64 (f4a t)) 8⟩),(nF11,⟨R5,fun t=>AV.bool (f5a t)⟩),(nF13,⟨R6,fun t=>AV.agg (.ints .u8 (f6a t)) 32⟩),(nF12,⟨R7,fun t=>AV.tup [.s (.pl (.agg (.ints .u8 (f7a t)) 32)),.s (.pl (.int .i64 (f7b t)))]⟩),(nF14,⟨R8,fun t=>AV.agg (.ints .u64 (f8a t)) 8⟩),(nF15,⟨R9,fun t=>AV.tup [.s (.pl (.agg (.ints .u64 (f9a t)) 20)),.s (.pl (.int .i64 (f9b t)))]⟩),(nF16,⟨R10,fun t=>AV.agg (.ints .u64 (f10a t)) 20⟩)],[],noE⟩,[]⟩
theorem OLA_ev (fu:Nat) (a b x:List Int):afunc prog f_opalinelaw10_OprfAdds (g_OLA T0 R0 T1 R1 f1a T2 R2 f2a T3 R3 f3a T4 R4 f4a T5 R5 f5a T6 R6 f6a T7 R7 f7a f7b T8 R8 f8a T9 R9 f9a f9b T10 R10 f10a) fu [.agg (.ints .u8 a) 32,.agg (.ints .u8 b) 32,.agg (.ints .u8 x) 32]=(R0 []).bind fun t=>(R1 [.agg (.ints .u8 a) 32]).bind fun t=>(R1 [.agg (.ints .u8 b) 32]).bind fun t_1=>(R2 [.agg (.ints .u8 x) 32]).bind fun t_2=>(R3 [.agg (.ints .u64 (f1a t)) 8]).bind fun t_3=>bif f3a t_3 then some (AV.bool true) else (R3 [.agg (.ints .u64 (f1a t_1)) 8]).bind fun t_4=>bif f3a t_4 then some (AV.bool true) else (R4 [.agg (.ints .u64 (f1a t)) 8,.agg (.ints .u64 (f1a t_1)) 8]).bind fun t_5=>(R3 [.agg (.ints .u64 (f4a t_5)) 8]).bind fun t_6=>bif f3a t_6 then some (AV.bool true) else (R5 [.agg (.ints .u64 (f2a t_2)) 20]).bind fun t_7=>bif f5a t_7 then some (AV.bool true) else (R6 [.agg (.ints .u64 (f2a t_2)) 20]).bind fun t_8=>(R7 [.agg (.ints .u64 (f1a t)) 8,.agg (.ints .u8 (f6a t_8)) 32]).bind fun t_9=>(R6 [.agg (.ints .u64 (f2a t_2)) 20]).bind fun t_10=>(R7 [.agg (.ints .u64 (f1a t_1)) 8,.agg (.ints .u8 (f6a t_10)) 32]).bind fun t_11=>(R4 [.agg (.ints .u64 (f1a t)) 8,.agg (.ints .u64 (f1a t_1)) 8]).bind fun t_12=>(R6 [.agg (.ints .u64 (f2a t_2)) 20]).bind fun t_13=>(R7 [.agg (.ints .u64 (f4a t_12)) 8,.agg (.ints .u8 (f6a t_13)) 32]).bind fun t_14=>(R7 [.agg (.ints .u64 (f1a t_1)) 8,.agg (.ints .u8 (f7a t_9)) 32]).bind fun t_15=>(R8 [.agg (.ints .u64 (f1a t)) 8,.agg (.ints .u64 (f1a t_1)) 8]).bind fun t=>(R6 [.agg (.ints .u64 (f2a t_2)) 20]).bind fun t_16=>(R7 [.agg (.ints .u64 (f8a t)) 8,.agg (.ints .u8 (f6a t_16)) 32]).bind fun t=>bif !decide (f7b t_9=(0:Int)) || !decide (f7b t_11=(0:Int)) || !decide (f7b t_14=(0:Int)) || !decide (f7b t_15=(0:Int)) || !decide (f7b t=(0:Int)) then some (AV.bool false) else (R9 [.agg (.ints .u8 (f7a t_9)) 32]).bind fun t_17=>(R9 [.agg (.ints .u8 (f7a t_11)) 32]).bind fun t_18=>(R10 [.agg (.ints .u64 (f9a t_17)) 20,.agg (.ints .u64 (f9a t_18)) 20]).bind fun t_19=>(R6 [.agg (.ints .u64 (f10a t_19)) 20]).bind fun t_20=>bif decide (f6a t_20=f7a t_14) then some (AV.bool (decide (f7a t_15=f7a t))) else some (AV.bool false):=by kernel_rfl
end
set_option maxRecDepth 4000
theorem finA_eq (s:Str) (k:Nat) (b:List Int):finA s k b=cond (decide (mayE s k=0)) (cond (decide ((readA b).2=0)) (endS s (timesP (readA b).1 (bitsDn (val (lim 8 (invL k 253 1))) 253)),0) ([],(readA b).2)) ([],mayE s k):=rfl
abbrev gI_OFi:Cg:=g_OFi (Int) rMay (fun t=>t) (Pt × Int) rERead (fun t=>[↑t.fst.x.a,↑t.fst.x.b,↑t.fst.x.c,↑t.fst.x.d,↑t.fst.x.e,↑t.fst.y.a,↑t.fst.y.b,↑t.fst.y.c,↑t.fst.y.d,↑t.fst.y.e,↑t.fst.z.a,↑t.fst.z.b,↑t.fst.z.c,↑t.fst.z.d,↑t.fst.z.e,↑t.fst.t.a,↑t.fst.t.b,↑t.fst.t.c,↑t.fst.t.d,↑t.fst.t.e]) (fun t=>t.snd) (Nat) rScInv (fun t=>lim 8 t) (Pt) rTimes (fun t=>[↑t.x.a,↑t.x.b,↑t.x.c,↑t.x.d,↑t.x.e,↑t.y.a,↑t.y.b,↑t.y.c,↑t.y.d,↑t.y.e,↑t.z.a,↑t.z.b,↑t.z.c,↑t.z.d,↑t.z.e,↑t.t.a,↑t.t.b,↑t.t.c,↑t.t.d,↑t.t.e]) (List UInt8) rEnd (fun t=>t)
theorem gok_OFi:CfOk prog gI_OFi.c:=⟨gam_cons ok_May <| gam_cons ok_ERead <| gam_cons ok_ScInv <| gam_cons ok_ETimes <| gam_cons ok_End <| gam_nil,fun _ _ h=>by cases h⟩
theorem ok_Fin:CallOk prog nF32 sFin:=by
 refine afunc_okE (g:=gI_OFi) (fu:=fun _=>0) mixed gok_OFi hF32 (by kernel_rfl) ?_
 intro args t ht
 unfold sFin at ht
 simp only at ht
 split at ht
 ·rename_i s a b
  obtain ⟨h1,h2⟩:=ctrueS ht
  subst h2
  rw [Bool.and_eq_true,Bool.and_eq_true,Bool.and_eq_true,Nat.ble_eq] at h1
  obtain ⟨⟨ha,hL,hb⟩,hs⟩:=h1
  have hL:=Nat.blt_eq.mp hL
  refine (OFi_ev ..).trans ?_
  show _=some (eSE (finA s (val a) b))
  have y:=run_May ha hs
  have r:=run_ERead hb
  have hr:=readA_ok b
  have iv:rScInv [W8 a]=some (invL (val a) 253 1):=run_1c (fun a=>invL (val a) 253 1) lt256 ha (by have:=lt256_of hL; rwa [lim8_val ha] at this)
  rw [finA_eq]
  generalize readA b=R at *
  obtain ⟨p,e⟩:=R
  dsimp only at *
  generalize invL (val a) 253 1=u at *
  have t:=run_TimesN hr u
  have T0:=timesP_ok hr (bitsDn (val (lim 8 u)) 253)
  generalize timesP p (bitsDn (val (lim 8 u)) 253)=T at *
  refine bstep y ?_
  by_cases h:mayE s (val a)=0
  ·have n:=run_End (may_0 h).1 T0
   rw [h,decide_eq_true rfl,Bool.not_true,cond_false,cond_true]
   refine bstep r ?_
   by_cases h2:e=0
   ·subst h2
    rw [decide_eq_true rfl,Bool.not_true,cond_false,cond_true]
    refine bstep iv ?_
    refine bstep t ?_
    refine bstep n ?_
    rfl
   ·rw [decide_eq_false h2,Bool.not_false,cond_true,cond_false]; rfl
  ·rw [decide_eq_false h,Bool.not_false,cond_true,cond_false]; rfl
 ·cases ht
theorem run_Fin {s:Str} {a b:List Int} (ha:ok8 a=true) (hL:val a < LN) (hb:ok32 b=true) (hs:s.length <= 1099511620000):rFin [.str s,W8 a,eB32 b]=some (finA s (val a) b):=by
 show cond (ok8 a && (Nat.blt (val a) LN && ok32 b) && Nat.ble s.length 1099511620000) (some (finA s (val a) b)) none=_
 rw [ha,hb,Nat.blt_eq.mpr hL,ble_of hs]; rfl
theorem wholeA_eq (k:Nat) (s:Str):wholeA k s=cond (decide ((timK s k).2=0)) (endS s (timK s k).1,0) ([],(timK s k).2):=rfl
theorem timK_ok (s:Str) (k:Nat):pOk (timK s k).1:=by
 unfold timK
 cases decide (mayE s k=0)
 ·exact neut_ok
 ·have h:=timesP_ok (htg_ok s) (bitsDn k 253)
  generalize timesP (htgP s) (bitsDn k 253)=T at *
  cases samE T neutP
  ·exact h
  ·exact neut_ok
theorem timK_len {s:Str} {k:Nat} (h:(timK s k).2=0):s.length <= 65535:=by
 by_cases h1:mayE s k=0
 ·exact (may_0 h1).1
 ·rw [timK_no h1] at h; exact absurd h h1
abbrev gI_OWh:Cg:=g_OWh (Pt × Int) rTimK (fun t=>[↑t.fst.x.a,↑t.fst.x.b,↑t.fst.x.c,↑t.fst.x.d,↑t.fst.x.e,↑t.fst.y.a,↑t.fst.y.b,↑t.fst.y.c,↑t.fst.y.d,↑t.fst.y.e,↑t.fst.z.a,↑t.fst.z.b,↑t.fst.z.c,↑t.fst.z.d,↑t.fst.z.e,↑t.fst.t.a,↑t.fst.t.b,↑t.fst.t.c,↑t.fst.t.d,↑t.fst.t.e]) (fun t=>t.snd) (List UInt8) rEnd (fun t=>t)
theorem gok_OWh:CfOk prog gI_OWh.c:=⟨gam_cons ok_TimK <| gam_cons ok_End <| gam_nil,fun _ _ h=>by cases h⟩
theorem ok_WhK:CallOk prog nF33 sWhK:=by
 refine afunc_okE (g:=gI_OWh) (fu:=fun _=>0) mixed gok_OWh hF33 (by kernel_rfl) ?_
 intro args t ht
 unfold sWhK at ht
 simp only at ht
 split at ht
 ·rename_i a s
  obtain ⟨h1,h2⟩:=ctrueS ht
  subst h2
  rw [Bool.and_eq_true,Nat.ble_eq] at h1
  obtain ⟨ha,hs⟩:=h1
  refine (OWh_ev ..).trans ?_
  show _=some (eSE (wholeA (val a) s))
  have y:=run_TimK ha hs
  have k0:=timK_ok s (val a)
  have kl:=timK_len (s:=s) (k:=val a)
  rw [wholeA_eq]
  generalize timK s (val a)=R at *
  obtain ⟨p,e⟩:=R
  dsimp only at *
  refine bstep y ?_
  by_cases h:e=0
  ·subst h
   have n:=run_End (kl rfl) k0
   rw [decide_eq_true rfl,Bool.not_true,cond_false,cond_true]
   refine bstep n ?_
   rfl
  ·rw [decide_eq_false h,Bool.not_false,cond_true,cond_false]; rfl
 ·cases ht
theorem run_WhK {s:Str} {a:List Int} (ha:ok8 a=true) (hs:s.length <= 1099511620000):rWhK [W8 a,.str s]=some (wholeA (val a) s):=by
 show cond (ok8 a && Nat.ble s.length 1099511620000) (some (wholeA (val a) s)) none=_
 rw [ha,ble_of hs]; rfl
abbrev gI_OAw8:Cg:=g_OAw8 (PUnit) rTrue
theorem gok_OAw8:CfOk prog gI_OAw8.c:=⟨gam_cons ok_awake08 <| gam_nil,fun _ _ h=>by cases h⟩
theorem ok_Awake08:CallOk prog nF29 sTrue:=by
 refine afunc_okE (g:=gI_OAw8) (fu:=fun _=>0) mixed gok_OAw8 hF29 (by kernel_rfl) ?_
 intro args t ht
 unfold sTrue at ht
 simp only at ht
 split at ht
 ·exact OAw8_ev ..
 ·cases ht
theorem htg_PT (s:Str):∃ g,PT (htgP s) g /\ Ev g:=by
 have hl:(xmdS (oH2g++oCtx) 64 s).length=64:=xmdS_len _ _ _
 have e:htgP s=(mapF (xmdS (oH2g++oCtx) 64 s)).1:=rfl
 rw [e]
 generalize xmdS (oH2g++oCtx) 64 s=X at *
 refine ⟨CP.add (gH (ph (looF ((X.take 32).map ofB)))) (gH (ph (looF ((X.drop 32).map ofB)))),?_,Ev_add (ev_half _) (ev_half _)⟩
 unfold mapF
 rw [hl]
 exact PT_add (PT_half (looF_ok _)) (PT_half (looF_ok _))
theorem aw10_some:samE (htgP [97]) neutP=false:=by decide +kernel
theorem timK_0:timK [97] 0=(neutP,9):=rfl
theorem timK_some {k:Nat} {s:Str} (hs:s.length <= 65535) {g:CP.G} (hp:PT (htgP s) g) (hg:Ev g) (h4:¬ e4 g) (h0:0 < k) (hk:k < LN):timK s k=(timesP (htgP s) (bitsDn k 253),0) /\ PT (timesP (htgP s) (bitsDn k 253)) (CP.nsm k g) /\ Ev (CP.nsm k g) /\ ¬ e4 (CP.nsm k g):=by
 have T:=PT_tim hp hk
 have n4:¬ e4 (CP.nsm k g):=fun z=>h4 (e4_free hg h0 hk z)
 have m:mayE s k=0:=by
  have b:Nat.beq k 0=false:=by
   cases hb:Nat.beq k 0
   ·rfl
   ·exact absurd (Nat.eq_of_beq_eq_true hb) (by omega)
  unfold mayE
  rw [ble_of hs,b]; rfl
 have n:samE (timesP (htgP s) (bitsDn k 253)) neutP=false:=by
  rw [Bool.eq_false_iff]
  intro z
  exact n4 ((none_eq T).1 z)
 refine ⟨?_,T,Ev_nsm hg k,n4⟩
 rw [timK_yes m,n]; rfl
theorem end_eq {s:Str} {p q:Pt} (h:byP p=byP q):endS s p=endS s q:=by
 unfold endS
 have h:lo 32 (fv (bytesF p)%P25)=lo 32 (fv (bytesF q)%P25):=h
 rw [h]
theorem endS_len (s:Str) (p:Pt):(endS s p).length=64:=hS_len _
theorem aw10:∃ (P3:Pt) (b:List Int) (S:Str),timK [97] 3=(P3,0) /\ pOk P3 /\ evalA 5 (byP P3)=(b,0) /\ ok32 b=true /\ finA [97] 3 b=(S,0) /\ wholeA 5 [97]=(S,0) /\ S.length=64:=by
 obtain ⟨g,G,hg⟩:=htg_PT [97]
 have h4:¬ e4 g:=fun z=>by
  have:=(none_eq G).2 z
  rw [aw10_some] at this
  cases this
 have L3:3 < LN:=by decide
 have L5:5 < LN:=by decide
 obtain ⟨t3,T3,E3,n3⟩:=timK_some (s:=[97]) (by decide) G hg h4 (k:=3) (by decide) L3
 obtain ⟨t5,T5,E5,n5⟩:=timK_some (s:=[97]) (by decide) G hg h4 (k:=5) (by decide) L5
 obtain ⟨r,h,ev,R,s1,Er,nr⟩:=eval_good T3 E3 n3 (k:=5) (by decide) L5
 obtain ⟨q,h',_,rd,Q,s2,Eq⟩:=read_some R Er nr
 have uL:invL 3 253 1 < LN:=invL_lt 253 1 (by decide)
 have iv:invL 3 253 1*3%LN=1:=inv253 (by decide) L3
 have D:=PT_nsm Q uL
 refine ⟨_,_,endS [97] (timesP (htgP [97]) (bitsDn 5 253)),t3,T3.ok,ev,byP_ok _,?_,?_,endS_len _ _⟩
 ·rw [finA_eq,rd]
  show (endS [97] (timesP q (bitsDn (val (lim 8 (invL 3 253 1))) 253)),(0:Int))=_
  refine Prod.ext ?_ rfl
  refine end_eq (by_sim D T5 (Ev_nsm Eq _) ?_)
  generalize invL 3 253 1=u at *
  have a1:sim (CP.nsm 5 (CP.nsm 3 g)) h':=sim_trans s1 s2
  have a2:=sim_symm (sim_nsm a1 u)
  have a3:CP.nsm u (CP.nsm 5 (CP.nsm 3 g))=CP.nsm 5 (CP.nsm (u*3) g):=by rw [CP.nsm_comm u 5,CP.nsm_mul]
  have a4:=sim_mod hg (u*3)
  rw [iv,CP.nsm_one] at a4
  rw [a3] at a2
  exact sim_trans a2 (sim_nsm a4 5)
 ·rw [wholeA_eq,t5]; rfl
abbrev gI_OAw:Cg:=g_OAw (PUnit) rTrue (PUnit) rTrue (PUnit) rTrue (Nat) rScOf (fun t=>lim 8 t) (Pt × Int) rTimK (fun t=>[↑t.fst.x.a,↑t.fst.x.b,↑t.fst.x.c,↑t.fst.x.d,↑t.fst.x.e,↑t.fst.y.a,↑t.fst.y.b,↑t.fst.y.c,↑t.fst.y.d,↑t.fst.y.e,↑t.fst.z.a,↑t.fst.z.b,↑t.fst.z.c,↑t.fst.z.d,↑t.fst.z.e,↑t.fst.t.a,↑t.fst.t.b,↑t.fst.t.c,↑t.fst.t.d,↑t.fst.t.e]) (fun t=>t.snd) (List Int) rEBytes (fun t=>t) (List Int × Int) rEval (fun t=>t.fst) (fun t=>t.snd) (Str × Int) rFin (fun t=>t.fst) (fun t=>t.snd) (Str × Int) rWhK (fun t=>t.fst) (fun t=>t.snd)
theorem gok_OAw:CfOk prog gI_OAw.c:=⟨gam_cons ok_Awake04 <| gam_cons ok_Awake06 <| gam_cons ok_Awake08 <| gam_cons ok_ScOf <| gam_cons ok_Blind <| gam_cons ok_EBytes <| gam_cons ok_Eval <| gam_cons ok_Fin <| gam_cons ok_WhK <| gam_nil,fun _ _ h=>by cases h⟩
theorem ok_awake10:CallOk prog nF6 sTrue:=by
 refine afunc_okE (g:=gI_OAw) (fu:=fun _=>0) mixed gok_OAw hF6 (by kernel_rfl) ?_
 intro args t ht
 unfold sTrue at ht
 simp only at ht
 split at ht
 case h_2=>cases ht
 obtain ⟨P3,b,S,t3,k3,ev,hb,fi,wh,hl⟩:=aw10
 have v:∀ n,n < LN->val (lim 8 n)=n:=fun n hn=>valM (Nat.lt_trans hn LN_lt)
 have L0:0 < LN:=by decide
 have L3:3 < LN:=by decide
 have L5:5 < LN:=by decide
 have s0:=run_ScOf (n:=0) (by decide)
 have s3:=run_ScOf (n:=3) (by decide)
 have s5:=run_ScOf (n:=5) (by decide)
 have b0:=run_TimK (s:=[97]) (ok8_lim 0) (by decide)
 have b3:=run_TimK (s:=[97]) (ok8_lim 3) (by decide)
 have by3:=run_EBytes k3
 have e5:=run_Eval (ok8_lim 5) (byP_ok P3)
 have f3:=run_Fin (s:=[97]) (ok8_lim 3) (by rw [v 3 L3]; exact L3) hb (by decide)
 have w5:=run_WhK (s:=[97]) (ok8_lim 5) (by decide)
 rw [v 0 L0,timK_0] at b0
 rw [v 3 L3,t3] at b3
 rw [v 5 L5,ev] at e5
 rw [v 3 L3,fi] at f3
 rw [v 5 L5,wh] at w5
 have by3:rEBytes [eP P3]=some (byP P3):=by3
 generalize byP P3=B at *
 generalize neutP=Np at *
 refine (OAw_ev ..).trans ?_
 refine bstep (show rTrue []=some () from rfl) ?_
 refine bstep (show rTrue []=some () from rfl) ?_
 refine bstep (show rTrue []=some () from rfl) ?_
 refine bstep s0 ?_
 refine bstep b0 ?_
 refine bstep s3 ?_
 refine bstep b3 ?_
 refine bstep s5 ?_
 refine bstep by3 ?_
 refine bstep e5 ?_
 refine bstep s3 ?_
 refine bstep f3 ?_
 refine bstep s5 ?_
 refine bstep w5 ?_
 refine cstep ?_ ?_
 ·show (decide ((9:Int)=9) && decide ((0:Int)=0) && decide ((0:Int)=0) && decide ((0:Int)=0) && decide ((0:Int)=0) && decide (S=S))=true
  rw [decide_eq_true (rfl:S=S)]; rfl
 ·show some (AV.bool (decide (((S.length:Nat):Int)=64)))=_
  rw [decide_eq_true (by omega)]; rfl
theorem rp_set2 (R:List Int) (N i:Nat) (hN:R.length=N) (hi:i < N):(R.take i++List.replicate (N - i) 0).set i (R.getD i 0)=R.take (i+1)++List.replicate (N - (i+1)) 0:=by
 have e:R.take (i+1)=R.take i++[R.getD i 0]:=by
  rw [List.take_add_one,List.getElem?_eq_getElem (by omega),List.getD_eq_getElem?_getD,List.getElem?_eq_getElem (by omega)]; rfl
 have hl:(R.take i).length=i:=by rw [List.length_take]; omega
 rw [e,List.set_append_right _ _ (by rw [hl]; omega),hl,Nat.sub_self,show N - i=N - (i+1)+1 by omega,List.replicate_succ,List.set_cons_zero,List.append_assoc]; rfl
abbrev gI_OSo:Cg:=g_OSo (Nat) rScWide (fun t=>lim 8 t)
theorem gok_OSo:CfOk prog gI_OSo.c:=⟨gam_cons ok_ScWide <| gam_nil,fun _ _ h=>by cases h⟩
theorem so10_loop {a:List Int} (ha:a.length=32) (z:List Int) (m fu:Nat) (K:Ex->St->Option AV):∀ (d n i:Nat),i+d=32->d < n ->
  lpA prog gI_OSo fu OSo_b1 K n (some (OSo_s1 32 32 (i:Int) a z m (a.take i++List.replicate (32 - i) 0)))=kOut K (.exit 0) (some (OSo_o1e0 32 z m a)):=by
 intro d
 induction d with
 | zero=>
  intro n i hi hn
  obtain ⟨n,rfl⟩:=Nat.exists_eq_succ_of_ne_zero (by omega:n ≠ 0)
  have e:i=32:=by omega
  rw [lpA_succ,OSo_r1,decide_eq_false (by omega),cond_false,e,Nat.sub_self,List.replicate_zero,List.append_nil,List.take_of_length_le (by omega)]
 | succ d ih=>
  intro n i hi hn
  obtain ⟨n,rfl⟩:=Nat.exists_eq_succ_of_ne_zero (by omega:n ≠ 0)
  have h:=ih n (i+1) (by omega) (by omega)
  have w1:i64.wrap ((i:Int)+1)=((i+1:Nat):Int):=wi64 (by omega) (by omega)
  rw [lpA_succ,OSo_r1,decide_eq_true (by omega),cond_true,decide_eq_true (by omega),cond_true,decide_eq_true (by omega),cond_true,w1,Int.toNat_natCast,Nat.zero_add,rp_set2 a 32 i ha (by omega)]
  exact h
theorem ok_Some10:CallOk prog nF7 sSome10:=by
 refine afunc_okE (g:=gI_OSo) (fu:=fun _=>40) mixed gok_OSo hF7 (by kernel_rfl) ?_
 intro args t ht
 obtain ⟨a,rfl,ha,rfl⟩:=runB1_ok (F:=fun a=>vB a%LN) ht
 obtain ⟨la,ba⟩:=ok32_ok ha
 refine (OSo_ev ..).trans ?_
 refine (so10_loop la [0,0,0,0,0,0,0,0] 32 40 _ 32 40 0 rfl (by decide)).trans ?_
 rw [kOut_some]
 refine (OSo_c1e0 ..).trans ?_
 have w:=run_ScWide (s:=a.map b8) (by rw [List.length_map]; omega)
 rw [vS_b8 ba] at w
 refine bstep w ?_
 rfl
theorem run_Some10 {a:List Int} (h:ok32 a=true):rSome10 [eB32 a]=some (vB a%LN):=run_B1 (fun a=>vB a%LN) h
def sLOA:Summ where
 T:=Unit
 run:=fun
  | [.c (.s (.pl (.agg (.ints .u8 a) 32))),.c (.s (.pl (.agg (.ints .u8 b) 32))),.c (.s (.pl (.agg (.ints .u8 x) 32)))]=>cond (ok32 a && (ok32 b && ok32 x)) (some ()) none
  | _=>none
 enc:=fun _=>.bool true
abbrev gI_OLA:Cg:=g_OLA (PUnit) rTrue (Nat) rSome10 (fun t=>lim 8 t) (Pt) rEHalf (fun t=>[↑t.x.a,↑t.x.b,↑t.x.c,↑t.x.d,↑t.x.e,↑t.y.a,↑t.y.b,↑t.y.c,↑t.y.d,↑t.y.e,↑t.z.a,↑t.z.b,↑t.z.c,↑t.z.d,↑t.z.e,↑t.t.a,↑t.t.b,↑t.t.c,↑t.t.d,↑t.t.e]) (Bool) rScZero (fun t=>t) (Nat) rScAdd (fun t=>lim 8 t) (Bool) rENone (fun t=>t) (List Int) rEBytes (fun t=>t) (List Int × Int) rEval (fun t=>t.fst) (fun t=>t.snd) (Nat) rScMul (fun t=>lim 8 t) (Pt × Int) rEParA (fun t=>[↑t.fst.x.a,↑t.fst.x.b,↑t.fst.x.c,↑t.fst.x.d,↑t.fst.x.e,↑t.fst.y.a,↑t.fst.y.b,↑t.fst.y.c,↑t.fst.y.d,↑t.fst.y.e,↑t.fst.z.a,↑t.fst.z.b,↑t.fst.z.c,↑t.fst.z.d,↑t.fst.z.e,↑t.fst.t.a,↑t.fst.t.b,↑t.fst.t.c,↑t.fst.t.d,↑t.fst.t.e]) (fun t=>t.snd) (Pt) rPAdd (fun t=>[↑t.x.a,↑t.x.b,↑t.x.c,↑t.x.d,↑t.x.e,↑t.y.a,↑t.y.b,↑t.y.c,↑t.y.d,↑t.y.e,↑t.z.a,↑t.z.b,↑t.z.c,↑t.z.d,↑t.z.e,↑t.t.a,↑t.t.b,↑t.t.c,↑t.t.d,↑t.t.e])
theorem gok_OLA:CfOk prog gI_OLA.c:=⟨gam_cons ok_awake10 <| gam_cons ok_Some10 <| gam_cons ok_EHalf <| gam_cons ok_ScZero <| gam_cons ok_ScAdd <| gam_cons ok_ENone <| gam_cons ok_EBytes <| gam_cons ok_Eval <| gam_cons ok_ScMul <| gam_cons ok_EParA <| gam_cons ok_EAdd <| gam_nil,fun _ _ h=>by cases h⟩
theorem ok_LOA:CallOk prog n_opalinelaw10_OprfAdds sLOA:=by
 refine afunc_okE (g:=gI_OLA) (fu:=fun _=>0) mixed gok_OLA h_opalinelaw10_OprfAdds (by kernel_rfl) ?_
 intro args t ht
 unfold sLOA at ht
 simp only at ht
 split at ht
 ·rename_i a b x
  obtain ⟨h1,_⟩:=ctrueS ht
  rw [Bool.and_eq_true,Bool.and_eq_true] at h1
  obtain ⟨ha,hb,hx⟩:=h1
  refine (OLA_ev ..).trans ?_
  show _=some (AV.bool true)
  have sa:=run_Some10 ha
  have sb:=run_Some10 hb
  have kL:vB a%LN < LN:=Nat.mod_lt _ LNp0
  have lL:vB b%LN < LN:=Nat.mod_lt _ LNp0
  generalize vB a%LN=k at *
  generalize vB b%LN=l at *
  have ex:=run_EHalf hx
  have P:=PT_hb (a:=x)
  have hg:=ev_half (ph (looF x))
  generalize halfF (looF x)=p at *
  generalize gH (ph (looF x))=g at *
  have sL:(k+l)%LN < LN:=Nat.mod_lt _ LNp0
  have mL:k*l%LN < LN:=Nat.mod_lt _ LNp0
  have zk:=run_ScZero kL
  have zl:=run_ScZero lL
  have zs:=run_ScZero sL
  have ad:=run_ScAdd kL lL
  have mu:=run_ScMul kL lL
  have no:=run_ENone P.ok
  have n4:=none_eq P
  have by1:rEBytes [eP p]=some (byP p):=run_EBytes P.ok
  have v:∀ n,n < LN->val (lim 8 n)=n:=fun n hn=>valM (Nat.lt_trans hn LN_lt)
  have e1:=run_Eval (ok8_lim k) (byP_ok p)
  have e2:=run_Eval (ok8_lim l) (byP_ok p)
  have e3:=run_Eval (ok8_lim ((k+l)%LN)) (byP_ok p)
  have e5:=run_Eval (ok8_lim (k*l%LN)) (byP_ok p)
  rw [v k kL] at e1
  rw [v l lL] at e2
  rw [v _ sL] at e3
  rw [v _ mL] at e5
  have nz:∀ n:Nat,Nat.beq n 0=false->0 < n:=fun n h=>by
   rcases Nat.eq_zero_or_pos n with h0 | h0
   ·rw [h0] at h; cases h
   ·exact h0
  have pos:∀ n:Nat,∀ X:Option AV,(Nat.beq n 0=false->X=some (AV.bool true))->cond (Nat.beq n 0) (some (AV.bool true)) X=some (AV.bool true):=fun n X h=>by
   cases hb:Nat.beq n 0
   ·exact h hb
   ·rfl
  refine bstep (show rTrue []=some () from rfl) ?_
  refine bstep sa ?_
  refine bstep sb ?_
  refine bstep ex ?_
  refine bstep zk ?_
  refine pos k _ fun k0=>?_
  refine bstep zl ?_
  refine pos l _ fun l0=>?_
  refine bstep ad ?_
  refine bstep zs ?_
  refine pos ((k+l)%LN) _ fun s0=>?_
  refine bstep no ?_
  cases hn:samE p neutP
  ·have h4:¬ e4 g:=fun z=>by
    have:=n4.2 z
    rw [hn] at this
    cases this
   have k0:=nz _ k0
   have l0:=nz _ l0
   have s0:=nz _ s0
   have m0:=mul_free k0 kL l0 lL
   obtain ⟨U,gu,v1,PU,s1,E1,f1⟩:=eval_good P hg h4 k0 kL
   obtain ⟨V,gv,v2,PV,s2,E2,f2⟩:=eval_good P hg h4 l0 lL
   obtain ⟨W,gw,v3,PW,s3,E3,f3⟩:=eval_good P hg h4 s0 sL
   obtain ⟨M,gm,v4,PM,s4,E4,f4⟩:=eval_good PU E1 f1 l0 lL
   obtain ⟨N,gn,v5,PN,s5,E5,f5⟩:=eval_good P hg h4 m0 mL
   obtain ⟨S,gs,r1,PS,s6,E6⟩:=read_good PU E1
   obtain ⟨T,gt,r2,PT',s7,E7⟩:=read_good PV E2
   have e4':=run_Eval (ok8_lim l) (byP_ok U)
   rw [v l lL,v4] at e4'
   rw [v1] at e1
   rw [v2] at e2
   rw [v3] at e3
   rw [v5] at e5
   have q1:=run_EParA (byP_ok U)
   have q2:=run_EParA (byP_ok V)
   rw [r1] at q1
   rw [r2] at q2
   have A:=PT_add PS PT'
   have a1:=run_PAdd PS.ok PT'.ok
   have by2:rEBytes [eP (addP S T d2F)]=some (byP (addP S T d2F)):=run_EBytes A.ok
   have w1:byP (addP S T d2F)=byP W:=by
    refine by_sim A PW (Ev_add E6 E7) ?_
    have x1:=sim_trans s1 s6
    have x2:=sim_trans s2 s7
    have x3:=sim_symm (sim_add x1 x2)
    rw [<-CP.nsm_add] at x3
    exact sim_trans x3 (sim_trans (sim_mod hg (k+l)) s3)
   have w2:byP M=byP N:=by
    refine by_sim PM PN E4 ?_
    have x1:=sim_nsm s1 l
    rw [<-CP.nsm_mul,Nat.mul_comm l k] at x1
    exact sim_trans (sim_symm s4) (sim_trans (sim_symm x1) (sim_trans (sim_mod hg (k*l)) s5))
   rw [w1] at by2
   rw [w2] at e4'
   generalize addP S T d2F=ST at *
   generalize byP W=bW at *
   generalize byP N=bN at *
   generalize hU:byP U=bU at *
   generalize hV:byP V=bV at *
   generalize hp:byP p=bp at *
   rw [cond_false]
   refine bstep by1 ?_
   refine bstep e1 ?_
   refine bstep by1 ?_
   refine bstep e2 ?_
   refine bstep ad ?_
   refine bstep by1 ?_
   refine bstep e3 ?_
   refine bstep e4' ?_
   refine bstep mu ?_
   refine bstep by1 ?_
   refine bstep e5 ?_
   rw [decide_eq_true rfl,Bool.not_true,Bool.or_false,Bool.or_false,Bool.or_false,Bool.or_false,cond_false]
   refine bstep q1 ?_
   refine bstep q2 ?_
   refine bstep a1 ?_
   refine bstep by2 ?_
   refine cstep (decide_eq_true rfl) ?_
   show some (AV.bool (decide (bN=bN)))=_
   rw [decide_eq_true rfl]
  ·rfl
 ·cases ht
end
end Go.Eng
