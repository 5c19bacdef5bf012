import Derived.Test.YthiilbllojllcaaGreatZT4
import Derived.Test.YthiilbllojllcaaGreatZT6
namespace Go.Eng
noncomputable section
open Go Go.Proofs
set_option linter.all false
section
variable (T0:Type) (R0:FA T0) (aG aO cE cI cP Wq:T0->Int) (T1:Type) (R1:FA T1) (aM:T1->Bool) (T2:Type) (R2:FA T2) (bE:T2->List Int) (T3:Type) (R3:FA T3) (bS eX oL vC vD:T3->Int) (T4:Type) (R4:FA T4) (dG jU z6 BE BF:T4->Int) (T5:Type) (R5:FA T5) (fE jG rR tF tG:T5->Int) (T6:Type) (R6:FA T6) (mF nP DU DV DW:T6->Int) (T7:Type) (R7:FA T7) (T8:Type) (R8:FA T8) (tE vE BH IF IG:T8->Int) (T9:Type) (R9:FA T9) (zX DX NI NJ NK:T9->Int) (Wo:Type) (Wv:FA Wo) (zY De Df Dg Dh:Wo->Int) (Zx:Wo->Bool) (T11:Type) (R11:FA T11) (Ez E0 E4 E6 E7:T11->Int) (T12:Type) (Zw:FA T12) (E8:T12->Bool) (T13:Type) (R13:FA T13) (Wp:T13->List Int) (T14:Type) (R14:FA T14) (bGc:T14->List Int)
def aXm:Cg:=⟨⟨cV [(164,⟨R0,λ t=>AV.tup [.s (.pl (.agg (.ints .u64 [(aG t),(aO t),(cE t),(cI t),(cP t)]) 5)),.s (.pl (.int .i64 (Wq t)))]⟩),(34,⟨R1,λ t=>AV.bool (aM t)⟩),(150,⟨R2,λ t=>AV.agg (.ints .u64 (bE t)) 20⟩),(32,⟨R3,λ t=>aU [(bS t),(eX t),(oL t),(vC t),(vD t)] 5⟩),(33,⟨R4,λ t=>aU [(dG t),(jU t),(z6 t),(BE t),(BF t)] 5⟩),(30,⟨R5,λ t=>aU [(fE t),(jG t),(rR t),(tF t),(tG t)] 5⟩),(28,⟨R6,λ t=>aU [(mF t),(nP t),(DU t),(DV t),(DW t)] 5⟩),(69,⟨R7,λ t=>AV.agg (.ints .u64 ([929955233495203,466365720129213,1662059464998953,2033849074728123,1442794654840575])) 5⟩),(29,⟨R8,λ t=>aU [(tE t),(vE t),(BH t),(IF t),(IG t)] 5⟩),(37,⟨R9,λ t=>aU [(zX t),(DX t),(NI t),(NJ t),(NK t)] 5⟩),(31,⟨Wv,λ t=>AV.tup [.s (.pl (.agg (.ints .u64 [(zY t),(De t),(Df t),(Dg t),(Dh t)]) 5)),.s (.pl (.bool (Zx t)))]⟩),(38,⟨R11,λ t=>aU [(Ez t),(E0 t),(E4 t),(E6 t),(E7 t)] 5⟩),(165,⟨Zw,λ t=>AV.bool (E8 t)⟩),(166,⟨R13,λ t=>AV.agg (.ints .u64 (Wp t)) 20⟩),(25,⟨R14,λ t=>AV.agg (.ints .u64 (bGc t)) 20⟩)],[],cX⟩,[]⟩
theorem bCS (fu:Nat) (a:List Int):aS prog Tryz.f131 (aXm T0 R0 aG aO cE cI cP Wq T1 R1 aM T2 R2 bE T3 R3 bS eX oL vC vD T4 R4 dG jU z6 BE BF T5 R5 fE jG rR tF tG T6 R6 mF nP DU DV DW T7 R7 T8 R8 tE vE BH IF IG T9 R9 zX DX NI NJ NK Wo Wv zY De Df Dg Dh Zx T11 R11 Ez E0 E4 E6 E7 T12 Zw E8 T13 R13 Wp T14 R14 bGc) fu [.agg (.ints .u8 a) 32]=(R0 [.agg (.ints .u8 a) 32]).bind λ t=>bif !decide (Wq t=0) then (R2 []).bind λ t=>some (AV.tup [.s (.pl (.agg (.ints .u64 (bE t)) 20)),.s (.pl (.int .i64 8))]) else (R1 [aU [aG t,aO t,cE t,cI t,cP t] 5]).bind λ bY=>bif aM bY then (R2 []).bind λ t=>some (AV.tup [.s (.pl (.agg (.ints .u64 (bE t)) 20)),.s (.pl (.int .i64 8))]) else (R3 [.int .u64 1]).bind λ cJ=>(R4 [aU [aG t,aO t,cE t,cI t,cP t] 5]).bind λ fF=>(R5 [aU [bS cJ,eX cJ,oL cJ,vC cJ,vD cJ] 5,aU [dG fF,jU fF,z6 fF,BE fF,BF fF] 5]).bind λ gA=>(R6 [aU [bS cJ,eX cJ,oL cJ,vC cJ,vD cJ] 5,aU [dG fF,jU fF,z6 fF,BE fF,BF fF] 5]).bind λ gC=>(R4 [aU [mF gC,nP gC,DU gC,DV gC,DW gC] 5]).bind λ jJ=>(R7 []).bind λ nR=>(R4 [aU [fE gA,jG gA,rR gA,tF gA,tG gA] 5]).bind λ nQ=>(R8 [aU [929955233495203,466365720129213,1662059464998953,2033849074728123,1442794654840575] 5,aU [dG nQ,jU nQ,z6 nQ,BE nQ,BF nQ] 5]).bind λ qZ=>(R9 [aU [tE qZ,vE qZ,BH qZ,IF qZ,IG qZ] 5]).bind λ iJ=>(R5 [aU [zX iJ,DX iJ,NI iJ,NJ iJ,NK iJ] 5,aU [dG jJ,jU jJ,z6 jJ,BE jJ,BF jJ] 5]).bind λ i0=>(R8 [aU [fE i0,jG i0,rR i0,tF i0,tG i0] 5,aU [dG jJ,jU jJ,z6 jJ,BE jJ,BF jJ] 5]).bind λ kK=>(Wv [aU [bS cJ,eX cJ,oL cJ,vC cJ,vD cJ] 5,aU [tE kK,vE kK,BH kK,IF kK,IG kK] 5]).bind λ gQ=>(R8 [aU [zY gQ,De gQ,Df gQ,Dg gQ,Dh gQ] 5,aU [mF gC,nP gC,DU gC,DV gC,DW gC] 5]).bind λ i8=>(R8 [aU [zY gQ,De gQ,Df gQ,Dg gQ,Dh gQ] 5,aU [tE i8,vE i8,BH i8,IF i8,IG i8] 5]).bind λ tD=>(R8 [aU [tE tD,vE tD,BH tD,IF tD,IG tD] 5,aU [fE i0,jG i0,rR i0,tF i0,tG i0] 5]).bind λ oZ=>(R6 [aU [aG t,aO t,cE t,cI t,cP t] 5,aU [aG t,aO t,cE t,cI t,cP t] 5]).bind λ t=>(R8 [aU [mF t,nP t,DU t,DV t,DW t] 5,aU [tE i8,vE i8,BH i8,IF i8,IG i8] 5]).bind λ t=>(R11 [aU [tE t,vE t,BH t,IF t,IG t] 5]).bind λ t=>(R8 [aU [fE gA,jG gA,rR gA,tF gA,tG gA] 5,aU [tE oZ,vE oZ,BH oZ,IF oZ,IG oZ] 5]).bind λ iG=>(R8 [aU [Ez t,E0 t,E4 t,E6 t,E7 t] 5,aU [tE iG,vE iG,BH iG,IF iG,IG iG] 5]).bind λ jI=>bif !Zx gQ then (R2 []).bind λ t=>some (AV.tup [.s (.pl (.agg (.ints .u64 (bE t)) 20)),.s (.pl (.int .i64 8))]) else (R1 [aU [tE jI,vE jI,BH jI,IF jI,IG jI] 5]).bind λ qQ=>bif aM qQ then (R2 []).bind λ t=>some (AV.tup [.s (.pl (.agg (.ints .u64 (bE t)) 20)),.s (.pl (.int .i64 8))]) else (Zw [aU [tE iG,vE iG,BH iG,IF iG,IG iG] 5]).bind λ yT=>bif E8 yT then (R2 []).bind λ t=>some (AV.tup [.s (.pl (.agg (.ints .u64 (bE t)) 20)),.s (.pl (.int .i64 8))]) else (R13 [aU [Ez t,E0 t,E4 t,E6 t,E7 t] 5,aU [tE iG,vE iG,BH iG,IF iG,IG iG] 5,aU [bS cJ,eX cJ,oL cJ,vC cJ,vD cJ] 5,aU [tE jI,vE jI,BH jI,IF jI,IG jI] 5]).bind λ t=>(R14 [.agg (.ints .u64 (Wp t)) 20]).bind λ t=>some (AV.tup [.s (.pl (.agg (.ints .u64 (bGc t)) 20)),.s (.pl (.int .i64 0))]):=by kernel_rfl
end
set_option maxRecDepth 4000
theorem bHg {x:Fe} (hx:cS x):iA [AV.agg (.ints .u64 [929955233495203,466365720129213,1662059464998953,2033849074728123,1442794654840575]) 5,eF x]=some (aN dF x):=by
 rw [<-WF]; exact bF qY hx
abbrev bCT:Cg:=aXm (Fe × Int) Pq (λ t=>↑t.fst.a) (λ t=>↑t.fst.b) (λ t=>↑t.fst.c) (λ t=>↑t.fst.d) (λ t=>↑t.fst.e) (λ t=>t.snd) (Bool) aD9 (λ t=>t) (Pt) Bg (λ t=>[↑t.x.a,↑t.x.b,↑t.x.c,↑t.x.d,↑t.x.e,↑t.y.a,↑t.y.b,↑t.y.c,↑t.y.d,↑t.y.e,↑t.z.a,↑t.z.b,↑t.z.c,↑t.z.d,↑t.z.e,↑t.t.a,↑t.t.b,↑t.t.c,↑t.t.d,↑t.t.e]) (Fe) JB (λ t=>↑t.a) (λ t=>↑t.b) (λ t=>↑t.c) (λ t=>↑t.d) (λ t=>↑t.e) (Fe) NQ (λ t=>↑t.a) (λ t=>↑t.b) (λ t=>↑t.c) (λ t=>↑t.d) (λ t=>↑t.e) (Fe) xC (λ t=>↑t.a) (λ t=>↑t.b) (λ t=>↑t.c) (λ t=>↑t.d) (λ t=>↑t.e) (Fe) vU (λ t=>↑t.a) (λ t=>↑t.b) (λ t=>↑t.c) (λ t=>↑t.d) (λ t=>↑t.e) (PUnit) rCD (Fe) iA (λ t=>↑t.a) (λ t=>↑t.b) (λ t=>↑t.c) (λ t=>↑t.d) (λ t=>↑t.e) (Fe) IJ (λ t=>↑t.a) (λ t=>↑t.b) (λ t=>↑t.c) (λ t=>↑t.d) (λ t=>↑t.e) (Fe × Bool) KZ (λ t=>↑t.fst.a) (λ t=>↑t.fst.b) (λ t=>↑t.fst.c) (λ t=>↑t.fst.d) (λ t=>↑t.fst.e) (λ t=>t.snd) (Fe) IK (λ t=>↑t.a) (λ t=>↑t.b) (λ t=>↑t.c) (λ t=>↑t.d) (λ t=>↑t.e) (Bool) aOY (λ t=>t) (Pt) aS4 (λ t=>[↑t.x.a,↑t.x.b,↑t.x.c,↑t.x.d,↑t.x.e,↑t.y.a,↑t.y.b,↑t.y.c,↑t.y.d,↑t.y.e,↑t.z.a,↑t.z.b,↑t.z.c,↑t.z.d,↑t.z.e,↑t.t.a,↑t.t.b,↑t.t.c,↑t.t.d,↑t.t.e]) (Pt) XM (λ t=>[↑t.x.a,↑t.x.b,↑t.x.c,↑t.x.d,↑t.x.e,↑t.y.a,↑t.y.b,↑t.y.c,↑t.y.d,↑t.y.e,↑t.z.a,↑t.z.b,↑t.z.c,↑t.z.d,↑t.z.e,↑t.t.a,↑t.t.b,↑t.t.c,↑t.t.d,↑t.t.e])
theorem aRo:CfOk prog bCT.c:=gk <| aA aEV <| aA XL <| aA HP <| aA AB <| aA EG <| aA AC <| aA xD <| aA WD <| aA kV <| aA Cq <| aA JU <| aA JN <| aA aHN <| aA aLU <| aA HO <| aH
set_option maxRecDepth 4000
theorem bCU {p:Pt} {g:CP.G} (hp:PT p g) {a:Nat} (h:a < LN):PT (eY p (cU (val (cM 8 a)) 253)) (CP.nsm a g):=by
 have:=Ma hp (val (cM 8 a));rw [zB (cZ h wB),aX0 h] at this;rw [zB (cZ h wB)];exact this
theorem QV {x y z L:Nat} (h:x%L=y%L):x*z%L=y*z%L:=by rw [lI,h,<-lI]
theorem aEF {L o a K:Nat}:(o*o%L) ^ K%L=o ^ (K*2)%L /\ (o*o%L*a%L) ^ K%L=o ^ (K*2)*a ^ K%L:=by
 have e1:(o*o%L)%L=(o*o)%L:=mY _ _;have e2:(o*o%L*a%L)%L=(o*o*a)%L:=by rw [mY,Nat.mod_mul_mod]
 have h1:=lO e1 K;have h2:=lO e2 K;have e:(o*o) ^ K=o ^ (K*2):=by rw [Nat.mul_pow,Nat.mul_two,dV]
 rw [e] at h1;rw [Nat.mul_pow,e] at h2;exact ⟨h1,h2⟩
theorem aJN (a:Nat):∀ (i out:Nat),uN a i out%LN=out ^ 2 ^ i*a ^ ((LN - 2)%2 ^ i)%LN:=by
 intro i
 induction i with
 | zero=>
  intro out;show out%LN=_;rw [iY,qK,iY,Nat.pow_one,gY]
 | succ i ih=>
  intro out;show uN a i (cond (Nat.beq ((LN - 2) / 2 ^ i%2) 1) (out*out%LN*a%LN) (out*out%LN))%LN=_;rw [ih];generalize LN - 2=E;have h2:E%2 ^ (i+1)=E%2 ^ i+2 ^ i*(E / 2 ^ i%2):=by rw [bM,qJ]
  rw [h2,bM];generalize 2 ^ i=K;obtain ⟨s1,s2⟩:=aEF (L:=LN) (o:=out) (a:=a) (K:=K);generalize LN=L at *;rcases TG (E / K) with h | h <;> rw [h]
  ·show (out*out%L) ^ K*a ^ (E%K)%L=_;rw [QV s1,u9,fP]
  ·show (out*out%L*a%L) ^ K*a ^ (E%K)%L=_;rw [QV s2,gY,dV,dU,bV (a ^ K)]
theorem aJO {a i:Nat} (hE:(LN - 2)%2 ^ i=LN - 2) (h0:0 < a) (h:a < LN):uN a i 1*a%LN=1:=by
 have e:=aJN a i 1;rw [hE,Nat.one_pow,mZ] at e;have k:=aGS h0 h;rw [QV e,bV];exact k
theorem bCV {a:Nat} (h0:0 < a) (h:a < LN):uN a 253 1*a%LN=1:=aJO (by decide) h0 h
theorem LI {g:CP.G}:Ds g CP.zero ↔ e4 g:=by
 constructor
 ·intro k;obtain ⟨t,ht,e⟩:=pM k;have:g=CP.neg t:=CP.neg_eq e.symm;rw [this]; exact XO ht
 ·intro k;exact HT (XO k) (CP.add_neg g).symm
theorem Ff {p:Pt} {g:CP.G} (hp:PT p g):pL p dM=true ↔ e4 g:=(bA6 hp SF).trans LI
end
end Go.Eng
