import Derived.Test.YteipjabipehbpaaGreatZT4
import Derived.Test.YteipjabipehbpaaGreatZT6
namespace Go.Eng
noncomputable section
open Go Go.Proofs
set_option linter.all false
section
variable (T0:Type) (R0:List AV->Option T0) (f0a f0b f0c f0d f0e f0f:T0->Int) (T1:Type) (R1:List AV->Option T1) (f1a:T1->Bool) (T2:Type) (R2:List AV->Option T2) (f2a:T2->List Int) (T3:Type) (R3:List AV->Option T3) (f3a f3b f3c f3d f3e:T3->Int) (T4:Type) (R4:List AV->Option T4) (f4a f4b f4c f4d f4e:T4->Int) (T5:Type) (R5:List AV->Option T5) (f5a f5b f5c f5d f5e:T5->Int) (T6:Type) (R6:List AV->Option T6) (f6a f6b f6c f6d f6e:T6->Int) (T7:Type) (R7:List AV->Option T7) (T8:Type) (R8:List AV->Option T8) (f8a f8b f8c f8d f8e:T8->Int) (T9:Type) (R9:List AV->Option T9) (f9a f9b f9c f9d f9e:T9->Int) (T10:Type) (R10:List AV->Option T10) (f10a f10b f10c f10d f10e:T10->Int) (f10f:T10->Bool) (T11:Type) (R11:List AV->Option T11) (f11a f11b f11c f11d f11e:T11->Int) (T12:Type) (R12:List AV->Option T12) (f12a:T12->Bool) (T13:Type) (R13:List AV->Option T13) (f13a:T13->List Int) (T14:Type) (R14:List AV->Option T14) (f14a:T14->List Int)
def g_RPa:Cg:=⟨⟨gam [(nF58,⟨R0,fun t=>AV.tup [.s (.pl (.agg (.ints .u64 [(f0a t),(f0b t),(f0c t),(f0d t),(f0e t)]) 5)),.s (.pl (.int .i64 (f0f t)))]⟩),(nF55,⟨R1,fun t=>AV.bool (f1a t)⟩),(nF52,⟨R2,fun t=>AV.agg (.ints .u64 (f2a t)) 20⟩),(nF35,⟨R3,fun t=>AV.agg (.ints .u64 [(f3a t),(f3b t),(f3c t),(f3d t),(f3e t)]) 5⟩),(nF40,⟨R4,fun t=>AV.agg (.ints .u64 [(f4a t),(f4b t),(f4c t),(f4d t),(f4e t)]) 5⟩),(nF44,⟨R5,fun t=>AV.agg (.ints .u64 [(f5a t),(f5b t),(f5c t),(f5d t),(f5e t)]) 5⟩),(nF41,⟨R6,fun t=>AV.agg (.ints .u64 [(f6a t),(f6b t),(f6c t),(f6d t),(f6e t)]) 5⟩),(nF36,⟨R7,fun t=>AV.agg (.ints .u64 ([929955233495203,466365720129213,1662059464998953,2033849074728123,1442794654840575])) 5⟩),(nF39,⟨R8,fun t=>AV.agg (.ints .u64 [(f8a t),(f8b t),(f8c t),(f8d t),(f8e t)]) 5⟩),(nF43,⟨R9,fun t=>AV.agg (.ints .u64 [(f9a t),(f9b t),(f9c t),(f9d t),(f9e t)]) 5⟩),(nF45,⟨R10,fun t=>AV.tup [.s (.pl (.agg (.ints .u64 [(f10a t),(f10b t),(f10c t),(f10d t),(f10e t)]) 5)),.s (.pl (.bool (f10f t)))]⟩),(nF46,⟨R11,fun t=>AV.agg (.ints .u64 [(f11a t),(f11b t),(f11c t),(f11d t),(f11e t)]) 5⟩),(nF59,⟨R12,fun t=>AV.bool (f12a t)⟩),(nF48,⟨R13,fun t=>AV.agg (.ints .u64 (f13a t)) 20⟩),(nF47,⟨R14,fun t=>AV.agg (.ints .u64 (f14a t)) 20⟩)],[],noE⟩,[]⟩
theorem RPa_ev (fu:Nat) (a:List Int):afunc prog fF15 (g_RPa T0 R0 f0a f0b f0c f0d f0e f0f T1 R1 f1a T2 R2 f2a T3 R3 f3a f3b f3c f3d f3e T4 R4 f4a f4b f4c f4d f4e T5 R5 f5a f5b f5c f5d f5e T6 R6 f6a f6b f6c f6d f6e T7 R7 T8 R8 f8a f8b f8c f8d f8e T9 R9 f9a f9b f9c f9d f9e T10 R10 f10a f10b f10c f10d f10e f10f T11 R11 f11a f11b f11c f11d f11e T12 R12 f12a T13 R13 f13a T14 R14 f14a) fu [.agg (.ints .u8 a) 32]=(R0 [.agg (.ints .u8 a) 32]).bind fun t=>bif !decide (f0f t=(0:Int)) then (R2 []).bind fun t=>some (AV.tup [.s (.pl (.agg (.ints .u64 (f2a t)) 20)),.s (.pl (.int .i64 (8:Int)))]) else (R1 [.agg (.ints .u64 [f0a t,f0b t,f0c t,f0d t,f0e t]) 5]).bind fun t_1=>bif f1a t_1 then (R2 []).bind fun t=>some (AV.tup [.s (.pl (.agg (.ints .u64 (f2a t)) 20)),.s (.pl (.int .i64 (8:Int)))]) else (R3 [.int .u64 (1:Int)]).bind fun t_2=>(R4 [.agg (.ints .u64 [f0a t,f0b t,f0c t,f0d t,f0e t]) 5]).bind fun t_3=>(R5 [.agg (.ints .u64 [f3a t_2,f3b t_2,f3c t_2,f3d t_2,f3e t_2]) 5,.agg (.ints .u64 [f4a t_3,f4b t_3,f4c t_3,f4d t_3,f4e t_3]) 5]).bind fun t_4=>(R6 [.agg (.ints .u64 [f3a t_2,f3b t_2,f3c t_2,f3d t_2,f3e t_2]) 5,.agg (.ints .u64 [f4a t_3,f4b t_3,f4c t_3,f4d t_3,f4e t_3]) 5]).bind fun t_5=>(R4 [.agg (.ints .u64 [f6a t_5,f6b t_5,f6c t_5,f6d t_5,f6e t_5]) 5]).bind fun t_6=>(R7 []).bind fun t_7=>(R4 [.agg (.ints .u64 [f5a t_4,f5b t_4,f5c t_4,f5d t_4,f5e t_4]) 5]).bind fun t_8=>(R8 [.agg (.ints .u64 [(929955233495203:Int),466365720129213,1662059464998953,2033849074728123,1442794654840575]) 5,.agg (.ints .u64 [f4a t_8,f4b t_8,f4c t_8,f4d t_8,f4e t_8]) 5]).bind fun t_9=>(R9 [.agg (.ints .u64 [f8a t_9,f8b t_9,f8c t_9,f8d t_9,f8e t_9]) 5]).bind fun t_10=>(R5 [.agg (.ints .u64 [f9a t_10,f9b t_10,f9c t_10,f9d t_10,f9e t_10]) 5,.agg (.ints .u64 [f4a t_6,f4b t_6,f4c t_6,f4d t_6,f4e t_6]) 5]).bind fun t_11=>(R8 [.agg (.ints .u64 [f5a t_11,f5b t_11,f5c t_11,f5d t_11,f5e t_11]) 5,.agg (.ints .u64 [f4a t_6,f4b t_6,f4c t_6,f4d t_6,f4e t_6]) 5]).bind fun t_12=>(R10 [.agg (.ints .u64 [f3a t_2,f3b t_2,f3c t_2,f3d t_2,f3e t_2]) 5,.agg (.ints .u64 [f8a t_12,f8b t_12,f8c t_12,f8d t_12,f8e t_12]) 5]).bind fun t_13=>(R8 [.agg (.ints .u64 [f10a t_13,f10b t_13,f10c t_13,f10d t_13,f10e t_13]) 5,.agg (.ints .u64 [f6a t_5,f6b t_5,f6c t_5,f6d t_5,f6e t_5]) 5]).bind fun t_14=>(R8 [.agg (.ints .u64 [f10a t_13,f10b t_13,f10c t_13,f10d t_13,f10e t_13]) 5,.agg (.ints .u64 [f8a t_14,f8b t_14,f8c t_14,f8d t_14,f8e t_14]) 5]).bind fun t_15=>(R8 [.agg (.ints .u64 [f8a t_15,f8b t_15,f8c t_15,f8d t_15,f8e t_15]) 5,.agg (.ints .u64 [f5a t_11,f5b t_11,f5c t_11,f5d t_11,f5e t_11]) 5]).bind fun t_16=>(R6 [.agg (.ints .u64 [f0a t,f0b t,f0c t,f0d t,f0e t]) 5,.agg (.ints .u64 [f0a t,f0b t,f0c t,f0d t,f0e t]) 5]).bind fun t=>(R8 [.agg (.ints .u64 [f6a t,f6b t,f6c t,f6d t,f6e t]) 5,.agg (.ints .u64 [f8a t_14,f8b t_14,f8c t_14,f8d t_14,f8e t_14]) 5]).bind fun t=>(R11 [.agg (.ints .u64 [f8a t,f8b t,f8c t,f8d t,f8e t]) 5]).bind fun t=>(R8 [.agg (.ints .u64 [f5a t_4,f5b t_4,f5c t_4,f5d t_4,f5e t_4]) 5,.agg (.ints .u64 [f8a t_16,f8b t_16,f8c t_16,f8d t_16,f8e t_16]) 5]).bind fun t_17=>(R8 [.agg (.ints .u64 [f11a t,f11b t,f11c t,f11d t,f11e t]) 5,.agg (.ints .u64 [f8a t_17,f8b t_17,f8c t_17,f8d t_17,f8e t_17]) 5]).bind fun t_18=>bif !f10f t_13 then (R2 []).bind fun t=>some (AV.tup [.s (.pl (.agg (.ints .u64 (f2a t)) 20)),.s (.pl (.int .i64 (8:Int)))]) else (R1 [.agg (.ints .u64 [f8a t_18,f8b t_18,f8c t_18,f8d t_18,f8e t_18]) 5]).bind fun t_19=>bif f1a t_19 then (R2 []).bind fun t=>some (AV.tup [.s (.pl (.agg (.ints .u64 (f2a t)) 20)),.s (.pl (.int .i64 (8:Int)))]) else (R12 [.agg (.ints .u64 [f8a t_17,f8b t_17,f8c t_17,f8d t_17,f8e t_17]) 5]).bind fun t_20=>bif f12a t_20 then (R2 []).bind fun t=>some (AV.tup [.s (.pl (.agg (.ints .u64 (f2a t)) 20)),.s (.pl (.int .i64 (8:Int)))]) else (R13 [.agg (.ints .u64 [f11a t,f11b t,f11c t,f11d t,f11e t]) 5,.agg (.ints .u64 [f8a t_17,f8b t_17,f8c t_17,f8d t_17,f8e t_17]) 5,.agg (.ints .u64 [f3a t_2,f3b t_2,f3c t_2,f3d t_2,f3e t_2]) 5,.agg (.ints .u64 [f8a t_18,f8b t_18,f8c t_18,f8d t_18,f8e t_18]) 5]).bind fun t=>(R14 [.agg (.ints .u64 (f13a t)) 20]).bind fun t=>some (AV.tup [.s (.pl (.agg (.ints .u64 (f14a t)) 20)),.s (.pl (.int .i64 (0:Int)))]):=by kernel_rfl
end
set_option maxRecDepth 4000
theorem d_mul {x:Fe} (hx:fOk x):rFMul [AV.agg (.ints .u64 [929955233495203,466365720129213,1662059464998953,2033849074728123,1442794654840575]) 5,eF x]=some (mulF dF x):=by
 rw [<-eF_dF]; exact run_FMul dF_ok hx
abbrev gI_RPa:Cg:=g_RPa (Fe × Int) rFParse (fun t=>↑t.fst.a) (fun t=>↑t.fst.b) (fun t=>↑t.fst.c) (fun t=>↑t.fst.d) (fun t=>↑t.fst.e) (fun t=>t.snd) (Bool) rOdd (fun t=>t) (Pt) rNeut (fun t=>[↑t.x.a,↑t.x.b,↑t.x.c,↑t.x.d,↑t.x.e,↑t.y.a,↑t.y.b,↑t.y.c,↑t.y.d,↑t.y.e,↑t.z.a,↑t.z.b,↑t.z.c,↑t.z.d,↑t.z.e,↑t.t.a,↑t.t.b,↑t.t.c,↑t.t.d,↑t.t.e]) (Fe) rFOf (fun t=>↑t.a) (fun t=>↑t.b) (fun t=>↑t.c) (fun t=>↑t.d) (fun t=>↑t.e) (Fe) rFSq (fun t=>↑t.a) (fun t=>↑t.b) (fun t=>↑t.c) (fun t=>↑t.d) (fun t=>↑t.e) (Fe) rFSub (fun t=>↑t.a) (fun t=>↑t.b) (fun t=>↑t.c) (fun t=>↑t.d) (fun t=>↑t.e) (Fe) rFAdd (fun t=>↑t.a) (fun t=>↑t.b) (fun t=>↑t.c) (fun t=>↑t.d) (fun t=>↑t.e) (PUnit) rCD (Fe) rFMul (fun t=>↑t.a) (fun t=>↑t.b) (fun t=>↑t.c) (fun t=>↑t.d) (fun t=>↑t.e) (Fe) rFNeg (fun t=>↑t.a) (fun t=>↑t.b) (fun t=>↑t.c) (fun t=>↑t.d) (fun t=>↑t.e) (Fe × Bool) rFRat (fun t=>↑t.fst.a) (fun t=>↑t.fst.b) (fun t=>↑t.fst.c) (fun t=>↑t.fst.d) (fun t=>↑t.fst.e) (fun t=>t.snd) (Fe) rFAbs (fun t=>↑t.a) (fun t=>↑t.b) (fun t=>↑t.c) (fun t=>↑t.d) (fun t=>↑t.e) (Bool) rZer (fun t=>t) (Pt) rCOf (fun t=>[↑t.x.a,↑t.x.b,↑t.x.c,↑t.x.d,↑t.x.e,↑t.y.a,↑t.y.b,↑t.y.c,↑t.y.d,↑t.y.e,↑t.z.a,↑t.z.b,↑t.z.c,↑t.z.d,↑t.z.e,↑t.t.a,↑t.t.b,↑t.t.c,↑t.t.d,↑t.t.e]) (Pt) rEPt (fun t=>[↑t.x.a,↑t.x.b,↑t.x.c,↑t.x.d,↑t.x.e,↑t.y.a,↑t.y.b,↑t.y.c,↑t.y.d,↑t.y.e,↑t.z.a,↑t.z.b,↑t.z.c,↑t.z.d,↑t.z.e,↑t.t.a,↑t.t.b,↑t.t.c,↑t.t.d,↑t.t.e])
theorem gok_RPa:CfOk prog gI_RPa.c:=⟨gam_cons ok_FParse <| gam_cons ok_Odd <| gam_cons ok_EId <| gam_cons ok_FOf <| gam_cons ok_FSq <| gam_cons ok_FSub <| gam_cons ok_FAdd <| gam_cons ok_CD <| gam_cons ok_FMul <| gam_cons ok_FNeg <| gam_cons ok_FRat <| gam_cons ok_FAbs <| gam_cons ok_Zer <| gam_cons ok_COf <| gam_cons ok_EPt <| gam_nil,fun _ _ h=>by cases h⟩
set_option maxRecDepth 4000
theorem PT_hb {a:List Int}:PT (halfF (looF a)) (gH (ph (looF a))):=PT_half (looF_ok a)
theorem PT_nsm {p:Pt} {g:CP.G} (hp:PT p g) {a:Nat} (h:a < LN):PT (timesP p (bitsDn (val (lim 8 a)) 253)) (CP.nsm a g):=by
 have:=PT_times hp (val (lim 8 a))
 rw [valM (Nat.lt_trans h LN_lt),nB_lt h] at this
 rw [valM (Nat.lt_trans h LN_lt)]
 exact this
theorem mulmodR {x y z L:Nat} (h:x%L=y%L):x*z%L=y*z%L:=by rw [Nat.mul_mod,h,<-Nat.mul_mod]
theorem invL_step {L o a K:Nat}:(o*o%L) ^ K%L=o ^ (K*2)%L /\ (o*o%L*a%L) ^ K%L=o ^ (K*2)*a ^ K%L:=by
 have e1:(o*o%L)%L=(o*o)%L:=Nat.mod_mod _ _
 have e2:(o*o%L*a%L)%L=(o*o*a)%L:=by rw [Nat.mod_mod,Nat.mod_mul_mod]
 have h1:=pow_mod_congr e1 K
 have h2:=pow_mod_congr e2 K
 have e:(o*o) ^ K=o ^ (K*2):=by rw [Nat.mul_pow,Nat.mul_two,Nat.pow_add]
 rw [e] at h1
 rw [Nat.mul_pow,e] at h2
 exact ⟨h1,h2⟩
theorem invL_val (a:Nat):∀ (i out:Nat),invL a i out%LN=out ^ 2 ^ i*a ^ ((LN - 2)%2 ^ i)%LN:=by
 intro i
 induction i with
 | zero=>
  intro out
  show out%LN=_
  rw [Nat.pow_zero,Nat.mod_one,Nat.pow_zero,Nat.pow_one,Nat.mul_one]
 | succ i ih=>
  intro out
  show invL a i (cond (Nat.beq ((LN - 2) / 2 ^ i%2) 1) (out*out%LN*a%LN) (out*out%LN))%LN=_
  rw [ih]
  generalize LN - 2=E
  have h2:E%2 ^ (i+1)=E%2 ^ i+2 ^ i*(E / 2 ^ i%2):=by rw [Nat.pow_succ,Nat.mod_mul]
  rw [h2,Nat.pow_succ]
  generalize 2 ^ i=K
  obtain ⟨s1,s2⟩:=invL_step (L:=LN) (o:=out) (a:=a) (K:=K)
  generalize LN=L at *
  rcases Nat.mod_two_eq_zero_or_one (E / K) with h | h <;> rw [h]
  ·show (out*out%L) ^ K*a ^ (E%K)%L=_
   rw [mulmodR s1,Nat.mul_zero,Nat.add_zero]
  ·show (out*out%L*a%L) ^ K*a ^ (E%K)%L=_
   rw [mulmodR s2,Nat.mul_one,Nat.pow_add,Nat.mul_assoc,Nat.mul_comm (a ^ K)]
theorem inv_bits {a i:Nat} (hE:(LN - 2)%2 ^ i=LN - 2) (h0:0 < a) (h:a < LN):invL a i 1*a%LN=1:=by
 have e:=invL_val a i 1
 rw [hE,Nat.one_pow,Nat.one_mul] at e
 have k:=inv_L h0 h
 rw [mulmodR e,Nat.mul_comm]
 exact k
theorem inv253 {a:Nat} (h0:0 < a) (h:a < LN):invL a 253 1*a%LN=1:=inv_bits (by decide) h0 h
theorem sim_zero {g:CP.G}:sim g CP.zero ↔ e4 g:=by
 constructor
 ·intro k
  obtain ⟨t,ht,e⟩:=sim_to k
  have:g=CP.neg t:=CP.neg_eq e.symm
  rw [this]; exact e4_neg ht
 ·intro k
  exact sim_of (e4_neg k) (CP.add_neg g).symm
theorem none_eq {p:Pt} {g:CP.G} (hp:PT p g):samE p neutP=true ↔ e4 g:=(PT_sam hp PT_neut).trans sim_zero
end
end Go.Eng
