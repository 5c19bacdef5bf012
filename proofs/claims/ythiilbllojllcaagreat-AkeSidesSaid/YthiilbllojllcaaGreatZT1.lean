import Derived.Test.YthiilbllojllcaaGreatZD3
namespace Go.Eng
noncomputable section
open Go Go.Proofs
set_option linter.all false
abbrev Ti:Nat:=54469307008909316920995813868745141605393597292927456921205312896311721017578
abbrev cAN:Nat:=25063068953384623474111414158702152701244531502492656460079210482610430750235
abbrev cMN:Nat:=1159843021668779879193775521855586647937357759715417654439879720876111806838
abbrev cDN:Nat:=40440834346308536858101042469323190826248399146238708352240133220865137265952
def bGy:Summ:={ T:=Pt,run:=A3 λ p=>p,enc:=eP }
def XM:FA Pt:=bGy.run
def u1E (p:Pt):Fe:=aN (gS p.z p.y) (cQ p.z p.y)
def u2E (p:Pt):Fe:=aN p.x p.y
def FQ (p:Pt):Fe:=(mC (fe 1) (aN (u1E p) (aN (u2E p) (u2E p)))).1
def ziE (p:Pt):Fe:=aN (aN (aN (FQ p) (u1E p)) (aN (FQ p) (u2E p))) p.t
def HM (p:Pt):Bool:=qS (aN p.t (ziE p))
def xE (p:Pt):Fe:=cond (HM p) (aN p.y iF) p.x
def yE (p:Pt):Fe:=cond (HM p) (aN p.x iF) p.y
def Px (p:Pt):Fe:=cond (HM p) (aN (aN (FQ p) (u1E p)) (fe Ti)) (aN (FQ p) (u2E p))
def y2E (p:Pt):Fe:=cond (qS (aN (xE p) (ziE p))) (cQ f0 (yE p)) (yE p)
def cW (p:Pt):Fe:=wX (aN (Px p) (cQ p.z (y2E p)))
def aAs:Summ:={ T:=List Int,run:=A3 λ p=>lo 32 (fv (cW p)%aK),enc:=pG }
def xF:FA (List Int):=aAs.run
def pL (p q:Pt):Bool:=jW (aN p.x q.y) (aN p.y q.x) || jW (aN p.y q.y) (aN p.x q.x)
def aWc:Summ:={ T:=Bool,run:=K9 pL,enc:=λ t=>.bool t }
def aWd:FA Bool:=aWc.run
def aHQ:Summ:={ T:=Bool,run:=A3 λ p=>pL p dM,enc:=λ t=>.bool t }
def Py:FA Bool:=aHQ.run
def rH (t:Fe):Fe:=aN iF (aN t t)
def vH (t:Fe):Fe:=aN (cQ (cQ f0 (fe 1)) (aN (rH t) dF)) (gS (rH t) dF)
def uH (t:Fe):Fe:=aN (gS (rH t) (fe 1)) (fe cMN)
def sqH (t:Fe):Bool:=(mC (uH t) (vH t)).2
def sH (t:Fe):Fe:=cond (sqH t) (mC (uH t) (vH t)).1 (cQ f0 (wX (aN (mC (uH t) (vH t)).1 t)))
def cH (t:Fe):Fe:=cond (sqH t) (cQ f0 (fe 1)) (rH t)
def nH (t:Fe):Fe:=cQ (aN (aN (cH t) (cQ (rH t) (fe 1))) (fe cDN)) (vH t)
def w0H (t:Fe):Fe:=aN (gS (sH t) (sH t)) (vH t)
def w1H (t:Fe):Fe:=aN (nH t) (fe cAN)
def w2H (t:Fe):Fe:=cQ (fe 1) (aN (sH t) (sH t))
def w3H (t:Fe):Fe:=gS (fe 1) (aN (sH t) (sH t))
def o9 (t:Fe):Pt:=⟨aN (w0H t) (w3H t),aN (w2H t) (w1H t),aN (w1H t) (w3H t),aN (w0H t) (w2H t)⟩
def aHR:Summ:={ T:=Pt,run:=Ax λ a=>o9 (sT a),enc:=eP }
def aHS:FA Pt:=aHR.run
def Wt (x y:Nat):Nat:=(1+y)%aK*((1+aK - y)%aK)%aK
def AD (x y:Nat):Nat:=(DZ 1 (Wt x y*(x*y%aK*(x*y%aK)%aK)%aK)).1
def ziR (x y:Nat):Nat:=AD x y*Wt x y%aK*(AD x y*(x*y%aK)%aK)%aK*(x*y%aK)%aK
def HN (x y:Nat):Bool:=Nat.beq (x*y%aK*ziR x y%aK%2) 1
def xR (x y:Nat):Nat:=cond (HN x y) (y*iN%aK) x
def yR (x y:Nat):Nat:=cond (HN x y) (x*iN%aK) y
def Tj (x y:Nat):Nat:=cond (HN x y) (AD x y*Wt x y%aK*Ti%aK) (AD x y*(x*y%aK)%aK)
def y2R (x y:Nat):Nat:=cond (Nat.beq (xR x y*ziR x y%aK%2) 1) ((0+aK - yR x y)%aK) (yR x y)
def nJ (x y:Nat):Nat:=q9 (Tj x y*((1+aK - y2R x y)%aK)%aK)
def Tk:Summ:={ T:=List Int,run:=Vt λ r=>lo 32 (nJ (Eg r).1 (Eg r).2),enc:=pG }
def Tl:FA (List Int):=Tk.run
def aAu {T:Type} (F:List Int->Nat->T):FA T
 | [.c (.s (.pl (.agg (.ints .u8 a) 32))),.c (.s (.dat (.ints .i64 d) j 1))]=>cond (dP a && mX d j) (some (F a (vB d))) none
 | _=>none
def aWf:Cg:=⟨⟨cV [],[],cX⟩,[]⟩
theorem bAu (fu:Nat) (p:Pt):aS prog Tryz.f25 aWf fu [eP p]=some (aU [(p.x.a:Int),(p.x.b:Int),(p.x.c:Int),(p.x.d:Int),(p.x.e:Int),(p.y.a:Int),(p.y.b:Int),(p.y.c:Int),(p.y.d:Int),(p.y.e:Int),(p.z.a:Int),(p.z.b:Int),(p.z.c:Int),(p.z.d:Int),(p.z.e:Int),(p.t.a:Int),(p.t.b:Int),(p.t.c:Int),(p.t.d:Int),(p.t.e:Int)] 20):=by kernel_rfl
section
variable (T0:Type) (R0:FA T0) (aG:T0->List Int) (T1:Type) (R1:FA T1) (aM:T1->List Int)
def aWg:Cg:=⟨⟨cV [(26,⟨R0,λ t=>AV.agg (.ints .u64 (aG t)) 20⟩),(25,⟨R1,λ t=>AV.agg (.ints .u64 (aM t)) 20⟩)],[],cX⟩,[]⟩
theorem bAv (fu:Nat):aS prog Tryz.f13 (aWg T0 R0 aG T1 R1 aM) fu []=(R0 []).bind λ t=>(R1 [.agg (.ints .u64 (aG t)) 20]).bind λ t=>some (AV.agg (.ints .u64 (aM t)) 20):=by kernel_rfl
end
section
variable (T0:Type) (R0:FA T0) (aG:T0->List Int) (T1:Type) (R1:FA T1) (aM:T1->List Int)
def aWh:Cg:=⟨⟨cV [(168,⟨R0,λ t=>AV.agg (.ints .u64 (aG t)) 20⟩),(25,⟨R1,λ t=>AV.agg (.ints .u64 (aM t)) 20⟩)],[],cX⟩,[]⟩
theorem bAw (fu:Nat):aS prog Tryz.f150 (aWh T0 R0 aG T1 R1 aM) fu []=(R0 []).bind λ t=>(R1 [.agg (.ints .u64 (aG t)) 20]).bind λ t=>some (AV.agg (.ints .u64 (aM t)) 20):=by kernel_rfl
end
section
variable (T0:Type) (R0:FA T0) (aG aO cE cI cP:T0->Int)
def aWi:Cg:=⟨⟨cV [(77,⟨R0,λ t=>aU [(aG t),(aO t),(cE t),(cI t),(cP t)] 5⟩)],[],cX⟩,[]⟩
theorem bAx (fu:Nat) (s:Str):aS prog Tryz.f36 (aWi T0 R0 aG aO cE cI cP) fu [.str s]=(R0 [.str s]).bind λ t=>some (aU [aG t,aO t,cE t,cI t,cP t] 5):=by kernel_rfl
end
section
variable (T0:Type) (R0:FA T0) (aG:T0->List Int) (T1:Type) (R1:FA T1) (aM:T1->List Int)
def aWj:Cg:=⟨⟨cV [(196,⟨R0,λ t=>AV.agg (.ints .u64 (aG t)) 20⟩),(25,⟨R1,λ t=>AV.agg (.ints .u64 (aM t)) 20⟩)],[],cX⟩,[]⟩
theorem bAy (fu:Nat) (p q:Pt):aS prog Tryz.f202 (aWj T0 R0 aG T1 R1 aM) fu [eP p,eP q]=(R0 [aU [(p.x.a:Int),(p.x.b:Int),(p.x.c:Int),(p.x.d:Int),(p.x.e:Int),(p.y.a:Int),(p.y.b:Int),(p.y.c:Int),(p.y.d:Int),(p.y.e:Int),(p.z.a:Int),(p.z.b:Int),(p.z.c:Int),(p.z.d:Int),(p.z.e:Int),(p.t.a:Int),(p.t.b:Int),(p.t.c:Int),(p.t.d:Int),(p.t.e:Int)] 20,aU [(q.x.a:Int),(q.x.b:Int),(q.x.c:Int),(q.x.d:Int),(q.x.e:Int),(q.y.a:Int),(q.y.b:Int),(q.y.c:Int),(q.y.d:Int),(q.y.e:Int),(q.z.a:Int),(q.z.b:Int),(q.z.c:Int),(q.z.d:Int),(q.z.e:Int),(q.t.a:Int),(q.t.b:Int),(q.t.c:Int),(q.t.d:Int),(q.t.e:Int)] 20]).bind λ t=>(R1 [.agg (.ints .u64 (aG t)) 20]).bind λ t=>some (AV.agg (.ints .u64 (aM t)) 20):=by kernel_rfl
end
section
variable (T0:Type) (R0:FA T0) (aG:T0->List Int) (T1:Type) (R1:FA T1) (aM:T1->List Int)
def aWk:Cg:=⟨⟨cV [(133,⟨R0,λ t=>AV.agg (.ints .u64 (aG t)) 20⟩),(25,⟨R1,λ t=>AV.agg (.ints .u64 (aM t)) 20⟩)],[],cX⟩,[]⟩
theorem bAz (fu:Nat) (p:Pt) (a:List Int):aS prog Tryz.f90 (aWk T0 R0 aG T1 R1 aM) fu [eP p,W8 a]=(R0 [aU [(p.x.a:Int),(p.x.b:Int),(p.x.c:Int),(p.x.d:Int),(p.x.e:Int),(p.y.a:Int),(p.y.b:Int),(p.y.c:Int),(p.y.d:Int),(p.y.e:Int),(p.z.a:Int),(p.z.b:Int),(p.z.c:Int),(p.z.d:Int),(p.z.e:Int),(p.t.a:Int),(p.t.b:Int),(p.t.c:Int),(p.t.d:Int),(p.t.e:Int)] 20,.agg (.ints .u64 a) 8]).bind λ t=>(R1 [.agg (.ints .u64 (aG t)) 20]).bind λ t=>some (AV.agg (.ints .u64 (aM t)) 20):=by kernel_rfl
end
section
variable (T0:Type) (R0:FA T0) (aG aO cE cI:T0->List Int) (T1:Type) (R1:FA T1) (aM bK iH iI iP:T1->Int) (T2:Type) (R2:FA T2) (bE:T2->Bool)
def aWl:Cg:=⟨⟨cV [(27,⟨R0,λ t=>AV.tup [.s (.pl (.agg (.ints .u64 (aG t)) 5)),.s (.pl (.agg (.ints .u64 (aO t)) 5)),.s (.pl (.agg (.ints .u64 (cE t)) 5)),.s (.pl (.agg (.ints .u64 (cI t)) 5))]⟩),(29,⟨R1,λ t=>aU [(aM t),(bK t),(iH t),(iI t),(iP t)] 5⟩),(75,⟨R2,λ t=>AV.bool (bE t)⟩)],[],cX⟩,[]⟩
theorem bAA (fu:Nat) (p q:Pt):aS prog Tryz.f167 (aWl T0 R0 aG aO cE cI T1 R1 aM bK iH iI iP T2 R2 bE) fu [eP p,eP q]=(R0 [aU [(p.x.a:Int),(p.x.b:Int),(p.x.c:Int),(p.x.d:Int),(p.x.e:Int),(p.y.a:Int),(p.y.b:Int),(p.y.c:Int),(p.y.d:Int),(p.y.e:Int),(p.z.a:Int),(p.z.b:Int),(p.z.c:Int),(p.z.d:Int),(p.z.e:Int),(p.t.a:Int),(p.t.b:Int),(p.t.c:Int),(p.t.d:Int),(p.t.e:Int)] 20]).bind λ t=>(R0 [aU [(q.x.a:Int),(q.x.b:Int),(q.x.c:Int),(q.x.d:Int),(q.x.e:Int),(q.y.a:Int),(q.y.b:Int),(q.y.c:Int),(q.y.d:Int),(q.y.e:Int),(q.z.a:Int),(q.z.b:Int),(q.z.c:Int),(q.z.d:Int),(q.z.e:Int),(q.t.a:Int),(q.t.b:Int),(q.t.c:Int),(q.t.d:Int),(q.t.e:Int)] 20]).bind λ bY=>(R1 [.agg (.ints .u64 (aG t)) 5,.agg (.ints .u64 (aO bY)) 5]).bind λ cJ=>(R1 [.agg (.ints .u64 (aO t)) 5,.agg (.ints .u64 (aG bY)) 5]).bind λ fF=>(R2 [aU [aM cJ,bK cJ,iH cJ,iI cJ,iP cJ] 5,aU [aM fF,bK fF,iH fF,iI fF,iP fF] 5]).bind λ gA=>bif bE gA then some (AV.bool true) else (R1 [.agg (.ints .u64 (aO t)) 5,.agg (.ints .u64 (aO bY)) 5]).bind λ gC=>(R1 [.agg (.ints .u64 (aG t)) 5,.agg (.ints .u64 (aG bY)) 5]).bind λ t=>(R2 [aU [aM gC,bK gC,iH gC,iI gC,iP gC] 5,aU [aM t,bK t,iH t,iI t,iP t] 5]).bind λ t=>some (AV.bool (bE t)):=by kernel_rfl
end
section
variable (T0:Type) (R0:FA T0) (aG:T0->List Int) (T1:Type) (R1:FA T1) (aM:T1->Bool)
def aWm:Cg:=⟨⟨cV [(150,⟨R0,λ t=>AV.agg (.ints .u64 (aG t)) 20⟩),(167,⟨R1,λ t=>AV.bool (aM t)⟩)],[],cX⟩,[]⟩
theorem bAB (fu:Nat) (p:Pt):aS prog Tryz.f132 (aWm T0 R0 aG T1 R1 aM) fu [eP p]=(R0 []).bind λ t=>(R1 [aU [(p.x.a:Int),(p.x.b:Int),(p.x.c:Int),(p.x.d:Int),(p.x.e:Int),(p.y.a:Int),(p.y.b:Int),(p.y.c:Int),(p.y.d:Int),(p.y.e:Int),(p.z.a:Int),(p.z.b:Int),(p.z.c:Int),(p.z.d:Int),(p.z.e:Int),(p.t.a:Int),(p.t.b:Int),(p.t.c:Int),(p.t.d:Int),(p.t.e:Int)] 20,.agg (.ints .u64 (aG t)) 20]).bind λ t=>some (AV.bool (aM t)):=by kernel_rfl
end
section
variable (T0:Type) (R0:FA T0) (aG aO cE cI:T0->List Int) (T1:Type) (R1:FA T1) (aM bK iH iI iP:T1->Int) (T2:Type) (R2:FA T2) (bE bU fD fJ fM:T2->Int) (T3:Type) (R3:FA T3) (bS eX oL vC vD:T3->Int) (T4:Type) (R4:FA T4) (dG jU z6 BE BF:T4->Int) (T5:Type) (R5:FA T5) (fE jG rR tF tG:T5->Int) (T6:Type) (R6:FA T6) (mF nP DU DV DW:T6->Int) (f6f:T6->Bool) (T7:Type) (R7:FA T7) (wU:T7->Bool) (T8:Type) (R8:FA T8) (T9:Type) (R9:FA T9) (zX DX NI NJ NK:T9->Int) (Wo:Type) (Wv:FA Wo) (zY De Df Dg Dh:Wo->Int) (T11:Type) (R11:FA T11) (Ez E0 E4 E6 E7:T11->Int) (T12:Type) (Zw:FA T12) (E8:T12->List Int)
def aWn:Cg:=⟨⟨cV [(27,⟨R0,λ t=>AV.tup [.s (.pl (.agg (.ints .u64 (aG t)) 5)),.s (.pl (.agg (.ints .u64 (aO t)) 5)),.s (.pl (.agg (.ints .u64 (cE t)) 5)),.s (.pl (.agg (.ints .u64 (cI t)) 5))]⟩),(28,⟨R1,λ t=>aU [(aM t),(bK t),(iH t),(iI t),(iP t)] 5⟩),(30,⟨R2,λ t=>aU [(bE t),(bU t),(fD t),(fJ t),(fM t)] 5⟩),(29,⟨R3,λ t=>aU [(bS t),(eX t),(oL t),(vC t),(vD t)] 5⟩),(32,⟨R4,λ t=>aU [(dG t),(jU t),(z6 t),(BE t),(BF t)] 5⟩),(33,⟨R5,λ t=>aU [(fE t),(jG t),(rR t),(tF t),(tG t)] 5⟩),(31,⟨R6,λ t=>AV.tup [.s (.pl (.agg (.ints .u64 [(mF t),(nP t),(DU t),(DV t),(DW t)]) 5)),.s (.pl (.bool (f6f t)))]⟩),(34,⟨R7,λ t=>AV.bool (wU t)⟩),(35,⟨R8,λ t=>eF iF⟩),(36,⟨R9,λ t=>aU [(zX t),(DX t),(NI t),(NJ t),(NK t)] 5⟩),(37,⟨Wv,λ t=>aU [(zY t),(De t),(Df t),(Dg t),(Dh t)] 5⟩),(38,⟨R11,λ t=>aU [(Ez t),(E0 t),(E4 t),(E6 t),(E7 t)] 5⟩),(39,⟨Zw,λ t=>AV.agg (.ints .u8 (E8 t)) 32⟩)],[],cX⟩,[]⟩
theorem bAC (fu:Nat) (p:Pt):aS prog Tryz.f14 (aWn T0 R0 aG aO cE cI T1 R1 aM bK iH iI iP T2 R2 bE bU fD fJ fM T3 R3 bS eX oL vC vD T4 R4 dG jU z6 BE BF T5 R5 fE jG rR tF tG T6 R6 mF nP DU DV DW f6f T7 R7 wU T8 R8 T9 R9 zX DX NI NJ NK Wo Wv zY De Df Dg Dh T11 R11 Ez E0 E4 E6 E7 T12 Zw E8) fu [eP p]=(R0 [aU [(p.x.a:Int),(p.x.b:Int),(p.x.c:Int),(p.x.d:Int),(p.x.e:Int),(p.y.a:Int),(p.y.b:Int),(p.y.c:Int),(p.y.d:Int),(p.y.e:Int),(p.z.a:Int),(p.z.b:Int),(p.z.c:Int),(p.z.d:Int),(p.z.e:Int),(p.t.a:Int),(p.t.b:Int),(p.t.c:Int),(p.t.d:Int),(p.t.e:Int)] 20]).bind λ t=>(R1 [.agg (.ints .u64 (cE t)) 5,.agg (.ints .u64 (aO t)) 5]).bind λ bY=>(R2 [.agg (.ints .u64 (cE t)) 5,.agg (.ints .u64 (aO t)) 5]).bind λ cJ=>(R3 [aU [aM bY,bK bY,iH bY,iI bY,iP bY] 5,aU [bE cJ,bU cJ,fD cJ,fJ cJ,fM cJ] 5]).bind λ fF=>(R3 [.agg (.ints .u64 (aG t)) 5,.agg (.ints .u64 (aO t)) 5]).bind λ gA=>(R4 [.int .u64 1]).bind λ gC=>(R5 [aU [bS gA,eX gA,oL gA,vC gA,vD gA] 5]).bind λ jJ=>(R3 [aU [bS fF,eX fF,oL fF,vC fF,vD fF] 5,aU [fE jJ,jG jJ,rR jJ,tF jJ,tG jJ] 5]).bind λ nR=>(R6 [aU [dG gC,jU gC,z6 gC,BE gC,BF gC] 5,aU [bS nR,eX nR,oL nR,vC nR,vD nR] 5]).bind λ nQ=>(R3 [aU [mF nQ,nP nQ,DU nQ,DV nQ,DW nQ] 5,aU [bS fF,eX fF,oL fF,vC fF,vD fF] 5]).bind λ qZ=>(R3 [aU [mF nQ,nP nQ,DU nQ,DV nQ,DW nQ] 5,aU [bS gA,eX gA,oL gA,vC gA,vD gA] 5]).bind λ iJ=>(R3 [aU [bS qZ,eX qZ,oL qZ,vC qZ,vD qZ] 5,aU [bS iJ,eX iJ,oL iJ,vC iJ,vD iJ] 5]).bind λ i0=>(R3 [aU [bS i0,eX i0,oL i0,vC i0,vD i0] 5,.agg (.ints .u64 (cI t)) 5]).bind λ kK=>(R3 [.agg (.ints .u64 (cI t)) 5,aU [bS kK,eX kK,oL kK,vC kK,vD kK] 5]).bind λ gQ=>(R7 [aU [bS gQ,eX gQ,oL gQ,vC gQ,vD gQ] 5]).bind λ i8=>bif wU i8 then (R8 []).bind λ tD=>(R3 [.agg (.ints .u64 (aO t)) 5,aU [1718705420411056,234908883556509,2233514472574048,2117202627021982,765476049583133] 5]).bind λ oZ=>(R3 [.agg (.ints .u64 (aG t)) 5,aU [1718705420411056,234908883556509,2233514472574048,2117202627021982,765476049583133] 5]).bind λ iG=>(R9 [.str ([(53:UInt8),52,52,54,57,51,48,55,48,48,56,57,48,57,51,49,54,57,50,48,57,57,53,56,49,51,56,54,56,55,52,53,49,52,49,54,48,53].append [(51:UInt8),57,51,53,57,55,50,57,50,57,50,55,52,53,54,57,50,49,50,48,53,51,49,50,56,57,54,51,49,49,55,50,49,48,49,55,53,55,56])]).bind λ jI=>(R3 [aU [bS qZ,eX qZ,oL qZ,vC qZ,vD qZ] 5,aU [zX jI,DX jI,NI jI,NJ jI,NK jI] 5]).bind λ qQ=>(R3 [aU [bS oZ,eX oZ,oL oZ,vC oZ,vD oZ] 5,aU [bS kK,eX kK,oL kK,vC kK,vD kK] 5]).bind λ yT=>(R7 [aU [bS yT,eX yT,oL yT,vC yT,vD yT] 5]).bind λ BG=>bif wU BG then (Wv [aU [bS iG,eX iG,oL iG,vC iG,vD iG] 5]).bind λ Ck=>(R2 [.agg (.ints .u64 (cE t)) 5,aU [zY Ck,De Ck,Df Ck,Dg Ck,Dh Ck] 5]).bind λ t=>(R3 [aU [bS qQ,eX qQ,oL qQ,vC qQ,vD qQ] 5,aU [bE t,bU t,fD t,fJ t,fM t] 5]).bind λ t=>(R11 [aU [bS t,eX t,oL t,vC t,vD t] 5]).bind λ t=>(Zw [aU [Ez t,E0 t,E4 t,E6 t,E7 t] 5]).bind λ t=>some (AV.agg (.ints .u8 (E8 t)) 32) else (R2 [.agg (.ints .u64 (cE t)) 5,aU [bS iG,eX iG,oL iG,vC iG,vD iG] 5]).bind λ t=>(R3 [aU [bS qQ,eX qQ,oL qQ,vC qQ,vD qQ] 5,aU [bE t,bU t,fD t,fJ t,fM t] 5]).bind λ t=>(R11 [aU [bS t,eX t,oL t,vC t,vD t] 5]).bind λ t=>(Zw [aU [Ez t,E0 t,E4 t,E6 t,E7 t] 5]).bind λ t=>some (AV.agg (.ints .u8 (E8 t)) 32) else (R3 [.agg (.ints .u64 (aG t)) 5,aU [bS kK,eX kK,oL kK,vC kK,vD kK] 5]).bind λ tD=>(R7 [aU [bS tD,eX tD,oL tD,vC tD,vD tD] 5]).bind λ oZ=>bif wU oZ then (Wv [.agg (.ints .u64 (aO t)) 5]).bind λ iG=>(R2 [.agg (.ints .u64 (cE t)) 5,aU [zY iG,De iG,Df iG,Dg iG,Dh iG] 5]).bind λ t=>(R3 [aU [bS iJ,eX iJ,oL iJ,vC iJ,vD iJ] 5,aU [bE t,bU t,fD t,fJ t,fM t] 5]).bind λ t=>(R11 [aU [bS t,eX t,oL t,vC t,vD t] 5]).bind λ t=>(Zw [aU [Ez t,E0 t,E4 t,E6 t,E7 t] 5]).bind λ t=>some (AV.agg (.ints .u8 (E8 t)) 32) else (R2 [.agg (.ints .u64 (cE t)) 5,.agg (.ints .u64 (aO t)) 5]).bind λ t=>(R3 [aU [bS iJ,eX iJ,oL iJ,vC iJ,vD iJ] 5,aU [bE t,bU t,fD t,fJ t,fM t] 5]).bind λ t=>(R11 [aU [bS t,eX t,oL t,vC t,vD t] 5]).bind λ t=>(Zw [aU [Ez t,E0 t,E4 t,E6 t,E7 t] 5]).bind λ t=>some (AV.agg (.ints .u8 (E8 t)) 32):=by kernel_rfl
end
section
variable (T0:Type) (R0:FA T0) (aG aO cE cI cP:T0->Int) (T1:Type) (R1:FA T1) (T2:Type) (R2:FA T2) (bE bU fD fJ fM:T2->Int) (T3:Type) (R3:FA T3) (T4:Type) (R4:FA T4) (dG jU z6 BE BF:T4->Int) (T5:Type) (R5:FA T5) (fE jG rR tF tG:T5->Int) (T6:Type) (R6:FA T6) (mF nP DU DV DW:T6->Int) (T7:Type) (R7:FA T7) (wU BI f7c f7d f7e:T7->Int) (T8:Type) (R8:FA T8) (tE vE BH IF IG:T8->Int) (T9:Type) (R9:FA T9) (zX DX NI NJ NK:T9->Int) (Wo:Type) (Wv:FA Wo) (zY De Df Dg Dh:Wo->Int) (Zx:Wo->Bool) (T11:Type) (R11:FA T11) (Ez E0 E4 E6 E7:T11->Int) (T12:Type) (Zw:FA T12) (E8:T12->List Int) (T13:Type) (R13:FA T13) (Wp:T13->List Int)
def aWo:Cg:=⟨⟨cV [(32,⟨R0,λ t=>aU [(aG t),(aO t),(cE t),(cI t),(cP t)] 5⟩),(69,⟨R1,λ t=>AV.agg (.ints .u64 ([929955233495203,466365720129213,1662059464998953,2033849074728123,1442794654840575])) 5⟩),(188,⟨R2,λ t=>aU [(bE t),(bU t),(fD t),(fJ t),(fM t)] 5⟩),(35,⟨R3,λ t=>eF iF⟩),(33,⟨R4,λ t=>aU [(dG t),(jU t),(z6 t),(BE t),(BF t)] 5⟩),(29,⟨R5,λ t=>aU [(fE t),(jG t),(rR t),(tF t),(tG t)] 5⟩),(28,⟨R6,λ t=>aU [(mF t),(nP t),(DU t),(DV t),(DW t)] 5⟩),(36,⟨R7,λ t=>aU [(wU t),(BI t),(f7c t),(f7d t),(f7e t)] 5⟩),(37,⟨R8,λ t=>aU [(tE t),(vE t),(BH t),(IF t),(IG t)] 5⟩),(30,⟨R9,λ t=>aU [(zX t),(DX t),(NI t),(NJ t),(NK t)] 5⟩),(31,⟨Wv,λ t=>AV.tup [.s (.pl (.agg (.ints .u64 [(zY t),(De t),(Df t),(Dg t),(Dh t)]) 5)),.s (.pl (.bool (Zx t)))]⟩),(38,⟨R11,λ t=>aU [(Ez t),(E0 t),(E4 t),(E6 t),(E7 t)] 5⟩),(166,⟨Zw,λ t=>AV.agg (.ints .u64 (E8 t)) 20⟩),(25,⟨R13,λ t=>AV.agg (.ints .u64 (Wp t)) 20⟩)],[],cX⟩,[]⟩
theorem bAD (fu:Nat) (a:List Int):aS prog Tryz.f201 (aWo T0 R0 aG aO cE cI cP T1 R1 T2 R2 bE bU fD fJ fM T3 R3 T4 R4 dG jU z6 BE BF T5 R5 fE jG rR tF tG T6 R6 mF nP DU DV DW T7 R7 wU BI f7c f7d f7e T8 R8 tE vE BH IF IG T9 R9 zX DX NI NJ NK Wo Wv zY De Df Dg Dh Zx T11 R11 Ez E0 E4 E6 E7 T12 Zw E8 T13 R13 Wp) fu [.agg (.ints .u8 a) 32]=(R0 [.int .u64 1]).bind λ t=>(R1 []).bind λ bY=>(R2 [.agg (.ints .u8 a) 32]).bind λ cJ=>(R3 []).bind λ fF=>(R4 [aU [bE cJ,bU cJ,fD cJ,fJ cJ,fM cJ] 5]).bind λ gA=>(R5 [aU [1718705420411056,234908883556509,2233514472574048,2117202627021982,765476049583133] 5,aU [dG gA,jU gA,z6 gA,BE gA,BF gA] 5]).bind λ gC=>(R6 [aU [fE gC,jG gC,rR gC,tF gC,tG gC] 5,aU [aG t,aO t,cE t,cI t,cP t] 5]).bind λ jJ=>(R7 [.str ([(49:UInt8),49,53,57,56,52,51,48,50,49,54,54,56,55,55,57,56,55,57,49,57,51,55,55,53,53,50,49,56,53,53,53,56,54,54,52,55,57].append [(51:UInt8),55,51,53,55,55,53,57,55,49,53,52,49,55,54,53,52,52,51,57,56,55,57,55,50,48,56,55,54,49,49,49,56,48,54,56,51,56])]).bind λ nR=>(R5 [aU [mF jJ,nP jJ,DU jJ,DV jJ,DW jJ] 5,aU [wU nR,BI nR,f7c nR,f7d nR,f7e nR] 5]).bind λ nQ=>(R8 [aU [aG t,aO t,cE t,cI t,cP t] 5]).bind λ qZ=>(R5 [aU [fE gC,jG gC,rR gC,tF gC,tG gC] 5,aU [929955233495203,466365720129213,1662059464998953,2033849074728123,1442794654840575] 5]).bind λ iJ=>(R9 [aU [tE qZ,vE qZ,BH qZ,IF qZ,IG qZ] 5,aU [fE iJ,jG iJ,rR iJ,tF iJ,tG iJ] 5]).bind λ i0=>(R6 [aU [fE gC,jG gC,rR gC,tF gC,tG gC] 5,aU [929955233495203,466365720129213,1662059464998953,2033849074728123,1442794654840575] 5]).bind λ kK=>(R5 [aU [zX i0,DX i0,NI i0,NJ i0,NK i0] 5,aU [mF kK,nP kK,DU kK,DV kK,DW kK] 5]).bind λ gQ=>(Wv [aU [fE nQ,jG nQ,rR nQ,tF nQ,tG nQ] 5,aU [fE gQ,jG gQ,rR gQ,tF gQ,tG gQ] 5]).bind λ i8=>(R8 [aU [aG t,aO t,cE t,cI t,cP t] 5]).bind λ tD=>bif !Zx i8 then (R5 [aU [zY i8,De i8,Df i8,Dg i8,Dh i8] 5,aU [bE cJ,bU cJ,fD cJ,fJ cJ,fM cJ] 5]).bind λ oZ=>(R11 [aU [fE oZ,jG oZ,rR oZ,tF oZ,tG oZ] 5]).bind λ iG=>(R8 [aU [Ez iG,E0 iG,E4 iG,E6 iG,E7 iG] 5]).bind λ jI=>(R9 [aU [fE gC,jG gC,rR gC,tF gC,tG gC] 5,aU [aG t,aO t,cE t,cI t,cP t] 5]).bind λ qQ=>(R5 [aU [fE gC,jG gC,rR gC,tF gC,tG gC] 5,aU [zX qQ,DX qQ,NI qQ,NJ qQ,NK qQ] 5]).bind λ yT=>(R7 [.str ([(52:UInt8),48,52,52,48,56,51,52,51,52,54,51,48,56,53,51,54,56,53,56,49,48,49,48,52,50,52,54,57,51,50,51,49,57,48,56,50,54].append [(50:UInt8),52,56,51,57,57,49,52,54,50,51,56,55,48,56,51,53,50,50,52,48,49,51,51,50,50,48,56,54,53,49,51,55,50,54,53,57,53,50])]).bind λ BG=>(R5 [aU [fE yT,jG yT,rR yT,tF yT,tG yT] 5,aU [wU BG,BI BG,f7c BG,f7d BG,f7e BG] 5]).bind λ Ck=>(R9 [aU [fE Ck,jG Ck,rR Ck,tF Ck,tG Ck] 5,aU [fE gQ,jG gQ,rR gQ,tF gQ,tG gQ] 5]).bind λ Di=>(R4 [aU [tE jI,vE jI,BH jI,IF jI,IG jI] 5]).bind λ Dj=>(R6 [aU [tE jI,vE jI,BH jI,IF jI,IG jI] 5,aU [tE jI,vE jI,BH jI,IF jI,IG jI] 5]).bind λ Dk=>(R5 [aU [mF Dk,nP Dk,DU Dk,DV Dk,DW Dk] 5,aU [fE gQ,jG gQ,rR gQ,tF gQ,tG gQ] 5]).bind λ yU=>(R7 [.str ([(50:UInt8),53,48,54,51,48,54,56,57,53,51,51,56,52,54,50,51,52,55,52,49,49,49,52,49,52,49,53,56,55,48,50,49,53,50,55,48,49].append [(50:UInt8),52,52,53,51,49,53,48,50,52,57,50,54,53,54,52,54,48,48,55,57,50,49,48,52,56,50,54,49,48,52,51,48,55,53,48,50,51,53])]).bind λ NL=>(R5 [aU [zX Di,DX Di,NI Di,NJ Di,NK Di] 5,aU [wU NL,BI NL,f7c NL,f7d NL,f7e NL] 5]).bind λ Dl=>(R9 [aU [aG t,aO t,cE t,cI t,cP t] 5,aU [dG Dj,jU Dj,z6 Dj,BE Dj,BF Dj] 5]).bind λ Dm=>(R6 [aU [aG t,aO t,cE t,cI t,cP t] 5,aU [dG Dj,jU Dj,z6 Dj,BE Dj,BF Dj] 5]).bind λ t=>(R5 [aU [fE yU,jG yU,rR yU,tF yU,tG yU] 5,aU [mF t,nP t,DU t,DV t,DW t] 5]).bind λ aOm=>(R5 [aU [zX Dm,DX Dm,NI Dm,NJ Dm,NK Dm] 5,aU [fE Dl,jG Dl,rR Dl,tF Dl,tG Dl] 5]).bind λ aOn=>(R5 [aU [fE Dl,jG Dl,rR Dl,tF Dl,tG Dl] 5,aU [mF t,nP t,DU t,DV t,DW t] 5]).bind λ t=>(R5 [aU [fE yU,jG yU,rR yU,tF yU,tG yU] 5,aU [zX Dm,DX Dm,NI Dm,NJ Dm,NK Dm] 5]).bind λ aOo=>(Zw [aU [fE aOm,jG aOm,rR aOm,tF aOm,tG aOm] 5,aU [fE aOn,jG aOn,rR aOn,tF aOn,tG aOn] 5,aU [fE t,jG t,rR t,tF t,tG t] 5,aU [fE aOo,jG aOo,rR aOo,tF aOo,tG aOo] 5]).bind λ t=>(R13 [.agg (.ints .u64 (E8 t)) 20]).bind λ t=>some (AV.agg (.ints .u64 (Wp t)) 20) else (R9 [aU [fE gC,jG gC,rR gC,tF gC,tG gC] 5,aU [aG t,aO t,cE t,cI t,cP t] 5]).bind λ oZ=>(R5 [aU [tE tD,vE tD,BH tD,IF tD,IG tD] 5,aU [zX oZ,DX oZ,NI oZ,NJ oZ,NK oZ] 5]).bind λ iG=>(R7 [.str ([(52:UInt8),48,52,52,48,56,51,52,51,52,54,51,48,56,53,51,54,56,53,56,49,48,49,48,52,50,52,54,57,51,50,51,49,57,48,56,50,54].append [(50:UInt8),52,56,51,57,57,49,52,54,50,51,56,55,48,56,51,53,50,50,52,48,49,51,51,50,50,48,56,54,53,49,51,55,50,54,53,57,53,50])]).bind λ jI=>(R5 [aU [fE iG,jG iG,rR iG,tF iG,tG iG] 5,aU [wU jI,BI jI,f7c jI,f7d jI,f7e jI] 5]).bind λ qQ=>(R9 [aU [fE qQ,jG qQ,rR qQ,tF qQ,tG qQ] 5,aU [fE gQ,jG gQ,rR gQ,tF gQ,tG gQ] 5]).bind λ yT=>(R4 [aU [zY i8,De i8,Df i8,Dg i8,Dh i8] 5]).bind λ BG=>(R6 [aU [zY i8,De i8,Df i8,Dg i8,Dh i8] 5,aU [zY i8,De i8,Df i8,Dg i8,Dh i8] 5]).bind λ Ck=>(R5 [aU [mF Ck,nP Ck,DU Ck,DV Ck,DW Ck] 5,aU [fE gQ,jG gQ,rR gQ,tF gQ,tG gQ] 5]).bind λ Di=>(R7 [.str ([(50:UInt8),53,48,54,51,48,54,56,57,53,51,51,56,52,54,50,51,52,55,52,49,49,49,52,49,52,49,53,56,55,48,50,49,53,50,55,48,49].append [(50:UInt8),52,52,53,51,49,53,48,50,52,57,50,54,53,54,52,54,48,48,55,57,50,49,48,52,56,50,54,49,48,52,51,48,55,53,48,50,51,53])]).bind λ Dj=>(R5 [aU [zX yT,DX yT,NI yT,NJ yT,NK yT] 5,aU [wU Dj,BI Dj,f7c Dj,f7d Dj,f7e Dj] 5]).bind λ Dk=>(R9 [aU [aG t,aO t,cE t,cI t,cP t] 5,aU [dG BG,jU BG,z6 BG,BE BG,BF BG] 5]).bind λ yU=>(R6 [aU [aG t,aO t,cE t,cI t,cP t] 5,aU [dG BG,jU BG,z6 BG,BE BG,BF BG] 5]).bind λ t=>(R5 [aU [fE Di,jG Di,rR Di,tF Di,tG Di] 5,aU [mF t,nP t,DU t,DV t,DW t] 5]).bind λ NL=>(R5 [aU [zX yU,DX yU,NI yU,NJ yU,NK yU] 5,aU [fE Dk,jG Dk,rR Dk,tF Dk,tG Dk] 5]).bind λ Dl=>(R5 [aU [fE Dk,jG Dk,rR Dk,tF Dk,tG Dk] 5,aU [mF t,nP t,DU t,DV t,DW t] 5]).bind λ t=>(R5 [aU [fE Di,jG Di,rR Di,tF Di,tG Di] 5,aU [zX yU,DX yU,NI yU,NJ yU,NK yU] 5]).bind λ Dm=>(Zw [aU [fE NL,jG NL,rR NL,tF NL,tG NL] 5,aU [fE Dl,jG Dl,rR Dl,tF Dl,tG Dl] 5,aU [fE t,jG t,rR t,tF t,tG t] 5,aU [fE Dm,jG Dm,rR Dm,tF Dm,tG Dm] 5]).bind λ t=>(R13 [.agg (.ints .u64 (E8 t)) 20]).bind λ t=>some (AV.agg (.ints .u64 (Wp t)) 20):=by kernel_rfl
end
section
variable (T0:Type) (R0:FA T0) (aG:T0->List Int) (aO:T0->Nat) (cE:T0->List Int) (cI:T0->Nat) (T1:Type) (R1:FA T1) (aM:T1->List Int) (bK:T1->Nat) (T2:Type) (R2:FA T2) (bE:T2->List Int) (bU:T2->Nat) (T3:Type) (R3:FA T3) (bS:T3->List Int) (eX:T3->Nat) (T4:Type) (R4:FA T4) (dG:T4->List Int) (jU:T4->Nat) (z6:T4->Bool) (T5:Type) (R5:FA T5) (fE:T5->Bool) (T6:Type) (R6:FA T6) (mF:T6->List Int) (nP:T6->Nat) (T7:Type) (R7:FA T7) (wU:T7->List Int) (BI:T7->Nat) (T8:Type) (R8:FA T8) (tE:T8->List Int) (vE:T8->Nat) (T9:Type) (R9:FA T9) (zX:T9->List Int)
def aWp:Cg:=⟨⟨cV [(138,⟨R0,λ t=>AV.tup [.s (dI (aG t) (aO t)),.s (dI (cE t) (cI t))]⟩),(98,⟨R1,λ t=>AV.s (dI (aM t) (bK t))⟩),(92,⟨R2,λ t=>AV.s (dI (bE t) (bU t))⟩),(91,⟨R3,λ t=>AV.s (dI (bS t) (eX t))⟩),(99,⟨R4,λ t=>AV.tup [.s (dI (dG t) (jU t)),.s (.pl (.bool (z6 t)))]⟩),(96,⟨R5,λ t=>AV.bool (fE t)⟩),(137,⟨R6,λ t=>AV.s (dI (mF t) (nP t))⟩),(50,⟨R7,λ t=>AV.s (dI (wU t) (BI t))⟩),(100,⟨R8,λ t=>AV.s (dI (tE t) (vE t))⟩),(139,⟨R9,λ t=>AV.agg (.ints .u8 (zX t)) 32⟩)],[],cX⟩,[]⟩
theorem bAE (fu:Nat) (p:RP):aS prog Tryz.f101 (aWp T0 R0 aG aO cE cI T1 R1 aM bK T2 R2 bE bU T3 R3 bS eX T4 R4 dG jU z6 T5 R5 fE T6 R6 mF nP T7 R7 wU BI T8 R8 tE vE T9 R9 zX) fu [HC p]=(R0 [.c (.mix [dI (nb p.x) (nb p.x).length,dI (nb p.y) (nb p.y).length,dI (nb p.z) (nb p.z).length])]).bind λ t=>(R1 [.s (dI [1] 1),.s (dI (cE t) (cI t))]).bind λ bY=>(R2 [.s (dI [1] 1),.s (dI (cE t) (cI t))]).bind λ cJ=>(R3 [.s (dI (aM bY) (bK bY)),.s (dI (bE cJ) (bU cJ))]).bind λ fF=>(R3 [.s (dI (aG t) (aO t)),.s (dI (cE t) (cI t))]).bind λ gA=>(R3 [.s (dI (bS gA) (eX gA)),.s (dI (bS gA) (eX gA))]).bind λ gC=>(R3 [.s (dI (bS fF) (eX fF)),.s (dI (bS gC) (eX gC))]).bind λ jJ=>(R4 [.s (dI [1] 1),.s (dI (bS jJ) (eX jJ))]).bind λ nR=>(R3 [.s (dI (dG nR) (jU nR)),.s (dI (bS fF) (eX fF))]).bind λ nQ=>(R3 [.s (dI (dG nR) (jU nR)),.s (dI (bS gA) (eX gA))]).bind λ qZ=>(R3 [.s (dI (bS nQ) (eX nQ)),.s (dI (bS qZ) (eX qZ))]).bind λ iJ=>(R3 [.s (dI (bS iJ) (eX iJ)),.s (dI (bS gA) (eX gA))]).bind λ i0=>(R3 [.s (dI (bS gA) (eX gA)),.s (dI (bS i0) (eX i0))]).bind λ kK=>(R5 [.s (dI (bS kK) (eX kK))]).bind λ gQ=>bif fE gQ then (R6 []).bind λ i8=>(R3 [.s (dI (cE t) (cI t)),.s (dI (mF i8) (nP i8))]).bind λ tD=>(R6 []).bind λ oZ=>(R3 [.s (dI (aG t) (aO t)),.s (dI (mF oZ) (nP oZ))]).bind λ t=>(R7 [.str ([(53:UInt8),52,52,54,57,51,48,55,48,48,56,57,48,57,51,49,54,57,50,48,57,57,53,56,49,51,56,54,56,55,52,53,49,52,49,54,48,53].append [(51:UInt8),57,51,53,57,55,50,57,50,57,50,55,52,53,54,57,50,49,50,48,53,51,49,50,56,57,54,51,49,49,55,50,49,48,49,55,53,55,56])]).bind λ iG=>(R3 [.s (dI (bS nQ) (eX nQ)),.s (dI (wU iG) (BI iG))]).bind λ jI=>(R3 [.s (dI (bS tD) (eX tD)),.s (dI (bS i0) (eX i0))]).bind λ qQ=>(R5 [.s (dI (bS qQ) (eX qQ))]).bind λ yT=>bif fE yT then (R2 [.s (dI [] 0),.s (dI (bS t) (eX t))]).bind λ t=>(R2 [.s (dI [1] 1),.s (dI (bE t) (bU t))]).bind λ t=>(R3 [.s (dI (bS jI) (eX jI)),.s (dI (bE t) (bU t))]).bind λ t=>(R8 [.s (dI (bS t) (eX t))]).bind λ t=>(R9 [.s (dI (tE t) (vE t))]).bind λ t=>some (AV.agg (.ints .u8 (zX t)) 32) else (R2 [.s (dI [1] 1),.s (dI (bS t) (eX t))]).bind λ t=>(R3 [.s (dI (bS jI) (eX jI)),.s (dI (bE t) (bU t))]).bind λ t=>(R8 [.s (dI (bS t) (eX t))]).bind λ t=>(R9 [.s (dI (tE t) (vE t))]).bind λ t=>some (AV.agg (.ints .u8 (zX t)) 32) else (R3 [.s (dI (aG t) (aO t)),.s (dI (bS i0) (eX i0))]).bind λ i8=>(R5 [.s (dI (bS i8) (eX i8))]).bind λ tD=>bif fE tD then (R2 [.s (dI [] 0),.s (dI (cE t) (cI t))]).bind λ t=>(R2 [.s (dI [1] 1),.s (dI (bE t) (bU t))]).bind λ t=>(R3 [.s (dI (bS qZ) (eX qZ)),.s (dI (bE t) (bU t))]).bind λ t=>(R8 [.s (dI (bS t) (eX t))]).bind λ t=>(R9 [.s (dI (tE t) (vE t))]).bind λ t=>some (AV.agg (.ints .u8 (zX t)) 32) else (R2 [.s (dI [1] 1),.s (dI (cE t) (cI t))]).bind λ t=>(R3 [.s (dI (bS qZ) (eX qZ)),.s (dI (bE t) (bU t))]).bind λ t=>(R8 [.s (dI (bS t) (eX t))]).bind λ t=>(R9 [.s (dI (tE t) (vE t))]).bind λ t=>some (AV.agg (.ints .u8 (zX t)) 32):=by kernel_rfl
end
set_option maxRecDepth 4000
abbrev bAF:Cg:=aWf 
theorem aPR:CfOk prog bAF.c:=gk <| aH
theorem HO:CallOk prog 25 bGy:=by
 refine fO aPR Tryz.func25 ?_;intro args t ht;obtain ⟨p,rfl,hp,rfl⟩:=tB (F:=λ p=>p) ht;exact bAu ..
theorem Cs {p:Pt} (h:nG p):XM [eP p]=some p:=CQ (λ p=>p) h
abbrev bAG:Cg:=aWg (Pt) UV (λ t=>[↑t.x.a,↑t.x.b,↑t.x.c,↑t.x.d,↑t.x.e,↑t.y.a,↑t.y.b,↑t.y.c,↑t.y.d,↑t.y.e,↑t.z.a,↑t.z.b,↑t.z.c,↑t.z.d,↑t.z.e,↑t.t.a,↑t.t.b,↑t.t.c,↑t.t.d,↑t.t.e]) (Pt) XM (λ t=>[↑t.x.a,↑t.x.b,↑t.x.c,↑t.x.d,↑t.x.e,↑t.y.a,↑t.y.b,↑t.y.c,↑t.y.d,↑t.y.e,↑t.z.a,↑t.z.b,↑t.z.c,↑t.z.d,↑t.z.e,↑t.t.a,↑t.t.b,↑t.t.c,↑t.t.d,↑t.t.e])
theorem aPS:CfOk prog bAG.c:=gk <| aA aCZ <| aA HO <| aH
theorem Tm:CallOk prog 13 UU:=by
 refine fO aPS Tryz.func13 ?_;intro args t ht;unfold UU EP at ht;simp only at ht;split at ht
 ·have ht:=nA ht;subst ht;have o:=Gs;have e:=Cs DD;generalize i4=Bp at *;refine (bAv ..).trans ?_;refine aI o ?_;refine aI e ?_;rfl
 ·cases ht
abbrev bAH:Cg:=aWh (Pt) Bg (λ t=>[↑t.x.a,↑t.x.b,↑t.x.c,↑t.x.d,↑t.x.e,↑t.y.a,↑t.y.b,↑t.y.c,↑t.y.d,↑t.y.e,↑t.z.a,↑t.z.b,↑t.z.c,↑t.z.d,↑t.z.e,↑t.t.a,↑t.t.b,↑t.t.c,↑t.t.d,↑t.t.e]) (Pt) XM (λ t=>[↑t.x.a,↑t.x.b,↑t.x.c,↑t.x.d,↑t.x.e,↑t.y.a,↑t.y.b,↑t.y.c,↑t.y.d,↑t.y.e,↑t.z.a,↑t.z.b,↑t.z.c,↑t.z.d,↑t.z.e,↑t.t.a,↑t.t.b,↑t.t.c,↑t.t.d,↑t.t.e])
theorem aPT:CfOk prog bAH.c:=gk <| aA ST <| aA HO <| aH
theorem HP:CallOk prog 150 UT:=by
 refine fO aPT Tryz.func150 ?_;intro args t ht;unfold UT EP at ht;simp only at ht;split at ht
 ·have ht:=nA ht;subst ht;have o:=tC;have e:=Cs sF;generalize dM=Bp at *;refine (bAw ..).trans ?_;refine aI o ?_;refine aI e ?_;rfl
 ·cases ht
abbrev bAI:Cg:=aWi (Fe) BO (λ t=>↑t.a) (λ t=>↑t.b) (λ t=>↑t.c) (λ t=>↑t.d) (λ t=>↑t.e)
theorem aPU:CfOk prog bAI.c:=gk <| aA Ja <| aH
theorem aAv:CallOk prog 36 N2:=by
 refine fO aPU Tryz.func36 ?_;intro args t ht;unfold N2 at ht;simp only at ht;split at ht
 ·rename_i s;obtain ⟨h1,h2⟩:=bO ht;subst h2;refine (bAx ..).trans ?_;refine aI (nW (vA h1)) ?_;rfl
 ·cases ht
abbrev bAJ:Cg:=aWj (Pt) UW (λ t=>[↑t.x.a,↑t.x.b,↑t.x.c,↑t.x.d,↑t.x.e,↑t.y.a,↑t.y.b,↑t.y.c,↑t.y.d,↑t.y.e,↑t.z.a,↑t.z.b,↑t.z.c,↑t.z.d,↑t.z.e,↑t.t.a,↑t.t.b,↑t.t.c,↑t.t.d,↑t.t.e]) (Pt) XM (λ t=>[↑t.x.a,↑t.x.b,↑t.x.c,↑t.x.d,↑t.x.e,↑t.y.a,↑t.y.b,↑t.y.c,↑t.y.d,↑t.y.e,↑t.z.a,↑t.z.b,↑t.z.c,↑t.z.d,↑t.z.e,↑t.t.a,↑t.t.b,↑t.t.c,↑t.t.d,↑t.t.e])
theorem aPV:CfOk prog bAJ.c:=gk <| aA aCY <| aA HO <| aH
theorem aPW:CallOk prog 202 aBk:=by
 refine fO aPV Tryz.func202 ?_;intro args t ht;obtain ⟨p,q,rfl,hp,hq,rfl⟩:=Gq (F:=λ p q=>Bh p q Fd) ht;refine (bAy ..).trans ?_;refine aI (Mj hp hq) ?_;refine aI (Cs (Gr hp hq Ix)) ?_;rfl
abbrev bAK:Cg:=aWk (Pt) EX (λ t=>[↑t.x.a,↑t.x.b,↑t.x.c,↑t.x.d,↑t.x.e,↑t.y.a,↑t.y.b,↑t.y.c,↑t.y.d,↑t.y.e,↑t.z.a,↑t.z.b,↑t.z.c,↑t.z.d,↑t.z.e,↑t.t.a,↑t.t.b,↑t.t.c,↑t.t.d,↑t.t.e]) (Pt) XM (λ t=>[↑t.x.a,↑t.x.b,↑t.x.c,↑t.x.d,↑t.x.e,↑t.y.a,↑t.y.b,↑t.y.c,↑t.y.d,↑t.y.e,↑t.z.a,↑t.z.b,↑t.z.c,↑t.z.d,↑t.z.e,↑t.t.a,↑t.t.b,↑t.t.c,↑t.t.d,↑t.t.e])
theorem aPX:CfOk prog bAK.c:=gk <| aA aKD <| aA HO <| aH
theorem HQ:CallOk prog 90 Qy:=by
 refine fO aPX Tryz.func90 ?_;intro args t ht;obtain ⟨p,a,rfl,hp,ha,rfl⟩:=VD (F:=λ p a=>eY p (cU (val a) 253)) ht;refine (bAz ..).trans ?_;refine aI (C4 hp ha) ?_;refine aI (Cs (vL hp _)) ?_;rfl
abbrev bAL:Cg:=aWl (Pt) ZF (λ t=>[↑t.x.a,↑t.x.b,↑t.x.c,↑t.x.d,↑t.x.e]) (λ t=>[↑t.y.a,↑t.y.b,↑t.y.c,↑t.y.d,↑t.y.e]) (λ t=>[↑t.z.a,↑t.z.b,↑t.z.c,↑t.z.d,↑t.z.e]) (λ t=>[↑t.t.a,↑t.t.b,↑t.t.c,↑t.t.d,↑t.t.e]) (Fe) iA (λ t=>↑t.a) (λ t=>↑t.b) (λ t=>↑t.c) (λ t=>↑t.d) (λ t=>↑t.e) (Bool) XE (λ t=>t)
theorem aPY:CfOk prog bAL.c:=gk <| aA Vz <| aA kV <| aA Kf <| aH
theorem aPZ:CallOk prog 167 aWc:=by
 refine fO aPY Tryz.func167 ?_;intro args t ht;obtain ⟨p,q,rfl,hp,hq,rfl⟩:=Gq (F:=pL) ht;refine (bAA ..).trans ?_;refine aI (Hz hp) ?_;refine aI (Hz hq) ?_;refine aI (bF hp.1 hq.2.1) ?_;refine aI (bF hp.2.1 hq.1) ?_;refine aI (rV (aL hp.1 hq.2.1) (aL hp.2.1 hq.1)) ?_;show _=some (AV.bool (pL p q));unfold pL;cases jW (aN p.x q.y) (aN p.y q.x)
 ·refine aI (bF hp.2.1 hq.2.1) ?_;refine aI (bF hp.1 hq.1) ?_;refine aI (rV (aL hp.2.1 hq.2.1) (aL hp.1 hq.1)) ?_;rfl
 ·rfl
theorem aHT {p q:Pt} (h:nG p) (k:nG q):aWd [eP p,eP q]=some (pL p q):=ZQ pL h k
abbrev bAM:Cg:=aWm (Pt) Bg (λ t=>[↑t.x.a,↑t.x.b,↑t.x.c,↑t.x.d,↑t.x.e,↑t.y.a,↑t.y.b,↑t.y.c,↑t.y.d,↑t.y.e,↑t.z.a,↑t.z.b,↑t.z.c,↑t.z.d,↑t.z.e,↑t.t.a,↑t.t.b,↑t.t.c,↑t.t.d,↑t.t.e]) (Bool) aWd (λ t=>t)
theorem aP0:CfOk prog bAM.c:=gk <| aA HP <| aA aPZ <| aH
theorem Kg:CallOk prog 132 aHQ:=by
 refine fO aP0 Tryz.func132 ?_;intro args t ht;obtain ⟨p,rfl,hp,rfl⟩:=tB (F:=λ p=>pL p dM) ht;have o:=tC;have e:=aHT hp sF;generalize dM=Np at *;refine (bAB ..).trans ?_;refine aI o ?_;refine aI e ?_;rfl
theorem HR {p:Pt} (h:nG p):Py [eP p]=some (pL p dM):=CQ (λ p=>pL p dM) h
theorem bAN:fe ((z8 (([53,52,52,54,57,51,48,55,48,48,56,57,48,57,51,49,54,57,50,48,57,57,53,56,49,51,56,54,56,55,52,53,49,52,49,54,48,53]:List UInt8).append [51,57,51,53,57,55,50,57,50,57,50,55,52,53,54,57,50,49,50,48,53,51,49,50,56,57,54,51,49,49,55,50,49,48,49,55,53,55,56])).1%aK)=fe Ti:=by kernel_rfl
theorem bAO:BO [AV.str (([53,52,52,54,57,51,48,55,48,48,56,57,48,57,51,49,54,57,50,48,57,57,53,56,49,51,56,54,56,55,52,53,49,52,49,54,48,53]:List UInt8).append [51,57,51,53,57,55,50,57,50,57,50,55,52,53,54,57,50,49,50,48,53,51,49,50,56,57,54,51,49,49,55,50,49,48,49,55,53,55,56])]=some (fe Ti):=by
 rw [nW (by decide +kernel),bAN]
theorem aWq {x:Fe} (hx:cS x):iA [eF x,AV.agg (.ints .u64 [1718705420411056,234908883556509,2233514472574048,2117202627021982,765476049583133]) 5]=some (aN x iF):=by
 rw [<-aIp]; exact bF hx xI
theorem JO {u v:Fe} (hu:cS u) (hv:cS v):cS (mC u v).1:=by
 have hR:=S5 hu hv;unfold mC;have hQ:cS (aN (dZ u v) iF):=aL hR xI;generalize (jW (aN v (aN (dZ u v) (dZ u v))) (cQ f0 u) || jW (aN v (aN (dZ u v) (dZ u v))) (aN (cQ f0 u) iF))=b;show cS (wX _);unfold wX;have hc:cS (cond b (aN (dZ u v) iF) (dZ u v)):=by
  cases b
  ·exact hR
  ·exact hQ
 cases qS (cond b (aN (dZ u v) iF) (dZ u v))
 ·exact hc
 ·exact cR qW
theorem JP {z:Fe} (hz:cS z):cS (wX z):=by
 unfold wX;cases qS z
 ·exact hz
 ·exact cR qW
section
variable {p:Pt} (hp:nG p)
include hp
theorem Kh:cS (u1E p):=aL (cT hp.2.2.1 hp.2.1) (cR hp.2.2.1)
theorem HS:cS (u2E p):=aL hp.1 hp.2.1
theorem FR:cS (FQ p):=JO (cA 1) (aL (Kh hp) (aL (HS hp) (HS hp)))
theorem bAP:cS (ziE p):=aL (aL (aL (FR hp) (Kh hp)) (aL (FR hp) (HS hp))) hp.2.2.2
theorem aWr:cS (xE p):=by
 unfold xE;cases HM p
 ·exact hp.1
 ·exact aL hp.2.1 xI
theorem aHU:cS (yE p):=by
 unfold yE;cases HM p
 ·exact hp.2.1
 ·exact aL hp.1 xI
theorem Pz:cS (Px p):=by
 unfold Px;cases HM p
 ·exact aL (FR hp) (HS hp)
 ·exact aL (aL (FR hp) (Kh hp)) (cA Ti)
theorem aHV:cS (y2E p):=by
 unfold y2E;cases qS (aN (xE p) (ziE p))
 ·exact aHU hp
 ·exact cR qW
end
theorem bAQ {p:Pt} (hp:nG p):xC [eF p.z,eF (y2E p)]=some (cQ p.z (y2E p)) /\ iA [eF (Px p),eF (cQ p.z (y2E p))]=some (aN (Px p) (cQ p.z (y2E p))) /\ IK [eF (aN (Px p) (cQ p.z (y2E p)))]=some (cW p) /\ Cp [eF (cW p)]=some (lo 32 (fv (cW p)%aK)):=by
 have h1:cS (cQ p.z (y2E p)):=cR hp.2.2.1;have h2:=aL (Pz hp) h1;exact ⟨iQ hp.2.2.1 (aHV hp),bF (Pz hp) h1,BR h2,Ld (JP h2)⟩
abbrev bAR:Cg:=aWn (Pt) ZF (λ t=>[↑t.x.a,↑t.x.b,↑t.x.c,↑t.x.d,↑t.x.e]) (λ t=>[↑t.y.a,↑t.y.b,↑t.y.c,↑t.y.d,↑t.y.e]) (λ t=>[↑t.z.a,↑t.z.b,↑t.z.c,↑t.z.d,↑t.z.e]) (λ t=>[↑t.t.a,↑t.t.b,↑t.t.c,↑t.t.d,↑t.t.e]) (Fe) vU (λ t=>↑t.a) (λ t=>↑t.b) (λ t=>↑t.c) (λ t=>↑t.d) (λ t=>↑t.e) (Fe) xC (λ t=>↑t.a) (λ t=>↑t.b) (λ t=>↑t.c) (λ t=>↑t.d) (λ t=>↑t.e) (Fe) iA (λ t=>↑t.a) (λ t=>↑t.b) (λ t=>↑t.c) (λ t=>↑t.d) (λ t=>↑t.e) (Fe) JB (λ t=>↑t.a) (λ t=>↑t.b) (λ t=>↑t.c) (λ t=>↑t.d) (λ t=>↑t.e) (Fe) NQ (λ t=>↑t.a) (λ t=>↑t.b) (λ t=>↑t.c) (λ t=>↑t.d) (λ t=>↑t.e) (Fe × Bool) KZ (λ t=>↑t.fst.a) (λ t=>↑t.fst.b) (λ t=>↑t.fst.c) (λ t=>↑t.fst.d) (λ t=>↑t.fst.e) (λ t=>t.snd) (Bool) aD9 (λ t=>t) (Unit) rFI (Fe) BO (λ t=>↑t.a) (λ t=>↑t.b) (λ t=>↑t.c) (λ t=>↑t.d) (λ t=>↑t.e) (Fe) IJ (λ t=>↑t.a) (λ t=>↑t.b) (λ t=>↑t.c) (λ t=>↑t.d) (λ t=>↑t.e) (Fe) IK (λ t=>↑t.a) (λ t=>↑t.b) (λ t=>↑t.c) (λ t=>↑t.d) (λ t=>↑t.e) (List Int) Cp (λ t=>t)
theorem aP1:CfOk prog bAR.c:=gk <| aA Vz <| aA xD <| aA AC <| aA kV <| aA AB <| aA EG <| aA JU <| aA XL <| aA aIq <| aA aAv <| aA Cq <| aA JN <| aA OW <| aH
theorem y6:CallOk prog 14 aAs:=by
 refine fO aP1 Tryz.func14 ?_;intro args t ht;obtain ⟨p,rfl,hp,rfl⟩:=tB (F:=λ p=>lo 32 (fv (cW p)%aK)) ht;obtain ⟨h1,h2,h3,h4⟩:=hp;have hp:nG p:=⟨h1,h2,h3,h4⟩;have k1:=Kh hp;have k2:=HS hp;have kI:=FR hp;have kz:=bAP hp;have e3:iA [eF (gS p.z p.y),eF (cQ p.z p.y)]=some (u1E p):=bF (cT h3 h2) (cR h3);have e4:iA [eF p.x,eF p.y]=some (u2E p):=bF h1 h2;have e7:=bF k1 (aL k2 k2);have e8:=FY (cA 1) (aL k1 (aL k2 k2));have hI:(mC (fe 1) (aN (u1E p) (aN (u2E p) (u2E p)))).1=FQ p:=rfl;have e9:=bF kI k1;have e10:=bF kI k2;have e11:=bF (aL kI k1) (aL kI k2);have e12:iA [eF (aN (aN (FQ p) (u1E p)) (aN (FQ p) (u2E p))),eF p.t]=some (ziE p):=bF (aL (aL kI k1) (aL kI k2)) h4;have e13:=bF h4 kz;have e14:aD9 [eF (aN p.t (ziE p))]=some (HM p):=FP (aL h4 kz);have e15:=bF (aWr hp) kz;have e16:=FP (aL (aWr hp) kz);have e17:=pK (aHU hp);obtain ⟨b1,b2,b3,b4⟩:=bAQ hp;have hx:xE p=cond (HM p) (aN p.y iF) p.x:=rfl;have hy:yE p=cond (HM p) (aN p.x iF) p.y:=rfl;have hd:Px p=cond (HM p) (aN (aN (FQ p) (u1E p)) (fe Ti)) (aN (FQ p) (u2E p)):=rfl;have hy2:y2E p=cond (qS (aN (xE p) (ziE p))) (cQ f0 (yE p)) (yE p):=rfl;have m1:=aWq h2;have m2:=aWq h1;have m3:=bF (aL kI k1) (cA Ti);refine (bAC ..).trans ?_;refine aI (Hz hp) ?_;refine aI (gF h3 h2) ?_;refine aI (iQ h3 h2) ?_;refine aI e3 ?_;refine aI e4 ?_;refine aI (lV (n:=1) (by decide)) ?_;refine aI (kW k2) ?_;refine aI e7 ?_;refine aI e8 ?_;generalize mC (fe 1) (aN (u1E p) (aN (u2E p) (u2E p)))=R at *;dsimp only;rw [hI];refine aI e9 ?_;refine aI e10 ?_;refine aI e11 ?_;refine aI e12 ?_;refine aI e13 ?_;refine aI e14 ?_;generalize Px p=de at *;generalize xE p=xx at *;generalize yE p=yy at *;generalize y2E p=y2 at *;generalize cW p=by' at *
 show _=some (pG (lo 32 (fv by'%aK)));generalize lo 32 (fv by'%aK)=out at *;generalize hr:HM p=rot at *;cases rot
 ·rw [aE] at hx hy hd;rw [aE];subst hx hy hd;refine aI e15 ?_;refine aI e16 ?_;cases hn:qS (aN p.x (ziE p))
  ·rw [hn,aE] at hy2;subst hy2;rw [aE];refine aI b1 ?_;refine aI b2 ?_;refine aI b3 ?_;refine aI b4 ?_;rfl
  ·rw [hn,aB] at hy2;subst hy2;rw [aB];refine aI e17 ?_;refine aI b1 ?_;refine aI b2 ?_;refine aI b3 ?_;refine aI b4 ?_;rfl
 ·rw [aB] at hx hy hd;rw [aB];subst hx hy hd;refine aI (show rFI []=some () from rfl) ?_;refine aI m1 ?_;refine aI m2 ?_;refine aI bAO ?_;refine aI m3 ?_;refine aI e15 ?_;refine aI e16 ?_;cases hn:qS (aN (aN p.y iF) (ziE p))
  ·rw [hn,aE] at hy2;subst hy2;rw [aE];refine aI b1 ?_;refine aI b2 ?_;refine aI b3 ?_;refine aI b4 ?_;rfl
  ·rw [hn,aB] at hy2;subst hy2;rw [aB];refine aI e17 ?_;refine aI b1 ?_;refine aI b2 ?_;refine aI b3 ?_;refine aI b4 ?_;rfl
theorem rD {p:Pt} (h:nG p):xF [eP p]=some (lo 32 (fv (cW p)%aK)):=CQ (λ p=>lo 32 (fv (cW p)%aK)) h
set_option maxRecDepth 4000
theorem y7 {s:Str} {n:Nat} (h1:BO [.str s]=some (fe ((z8 s).1%aK))) (h:Nat.beq ((z8 s).1%aK) n=true):BO [.str s]=some (fe n):=by
 rw [h1,aT h]
theorem aEc {s:Str} {n:Nat} (h1:decide (s.length <= 65536)=true) (h:Nat.beq (cond (yY s) (wW 0 s) 0) n=true):aAk [.str s]=some n:=by
 show cond (decide (s.length <= 65536)) (some (cond (yY s) (wW 0 s) 0)) none=_;rw [h1,aT h]; rfl
theorem bGz {x:Fe} (hx:cS x):iA [AV.agg (.ints .u64 [1718705420411056,234908883556509,2233514472574048,2117202627021982,765476049583133]) 5,eF x]=some (aN iF x):=by
 rw [<-aIp]; exact bF xI hx
theorem bGA {x:Fe} (hx:cS x):iA [eF x,AV.agg (.ints .u64 [929955233495203,466365720129213,1662059464998953,2033849074728123,1442794654840575]) 5]=some (aN x dF):=by
 rw [<-WF]; exact bF hx qY
theorem bGB {x:Fe} (hx:cS x):vU [eF x,AV.agg (.ints .u64 [929955233495203,466365720129213,1662059464998953,2033849074728123,1442794654840575]) 5]=some (gS x dF):=by
 rw [<-WF]; exact gF hx qY
theorem FS {b:Bool} {x y:Fe} (hx:cS x) (hy:cS y):cS (cond b x y):=by
 cases b
 ·exact hy
 ·exact hx
theorem JQ (a:List Int):cS (sT a):=cA _
abbrev bAS:Cg:=aWo (Fe) JB (λ t=>↑t.a) (λ t=>↑t.b) (λ t=>↑t.c) (λ t=>↑t.d) (λ t=>↑t.e) (PUnit) rCD (Fe) Pp (λ t=>↑t.a) (λ t=>↑t.b) (λ t=>↑t.c) (λ t=>↑t.d) (λ t=>↑t.e) (Unit) rFI (Fe) NQ (λ t=>↑t.a) (λ t=>↑t.b) (λ t=>↑t.c) (λ t=>↑t.d) (λ t=>↑t.e) (Fe) iA (λ t=>↑t.a) (λ t=>↑t.b) (λ t=>↑t.c) (λ t=>↑t.d) (λ t=>↑t.e) (Fe) vU (λ t=>↑t.a) (λ t=>↑t.b) (λ t=>↑t.c) (λ t=>↑t.d) (λ t=>↑t.e) (Fe) BO (λ t=>↑t.a) (λ t=>↑t.b) (λ t=>↑t.c) (λ t=>↑t.d) (λ t=>↑t.e) (Fe) IJ (λ t=>↑t.a) (λ t=>↑t.b) (λ t=>↑t.c) (λ t=>↑t.d) (λ t=>↑t.e) (Fe) xC (λ t=>↑t.a) (λ t=>↑t.b) (λ t=>↑t.c) (λ t=>↑t.d) (λ t=>↑t.e) (Fe × Bool) KZ (λ t=>↑t.fst.a) (λ t=>↑t.fst.b) (λ t=>↑t.fst.c) (λ t=>↑t.fst.d) (λ t=>↑t.fst.e) (λ t=>t.snd) (Fe) IK (λ t=>↑t.a) (λ t=>↑t.b) (λ t=>↑t.c) (λ t=>↑t.d) (λ t=>↑t.e) (Pt) aS4 (λ t=>[↑t.x.a,↑t.x.b,↑t.x.c,↑t.x.d,↑t.x.e,↑t.y.a,↑t.y.b,↑t.y.c,↑t.y.d,↑t.y.e,↑t.z.a,↑t.z.b,↑t.z.c,↑t.z.d,↑t.z.e,↑t.t.a,↑t.t.b,↑t.t.c,↑t.t.d,↑t.t.e]) (Pt) XM (λ t=>[↑t.x.a,↑t.x.b,↑t.x.c,↑t.x.d,↑t.x.e,↑t.y.a,↑t.y.b,↑t.y.c,↑t.y.d,↑t.y.e,↑t.z.a,↑t.z.b,↑t.z.c,↑t.z.d,↑t.z.e,↑t.t.a,↑t.t.b,↑t.t.c,↑t.t.d,↑t.t.e])
theorem aP2:CfOk prog bAS.c:=gk <| aA AB <| aA WD <| aA U0 <| aA aIq <| aA EG <| aA kV <| aA xD <| aA aAv <| aA Cq <| aA AC <| aA JU <| aA JN <| aA aLU <| aA HO <| aH
theorem aHW:CallOk prog 201 aHR:=by
 refine fO aP2 Tryz.func201 ?_;intro args t ht;obtain ⟨a,rfl,ha,rfl⟩:=sX (F:=λ a=>o9 (sT a)) ht;have o1:cS (fe 1):=cA 1;have e2:=OV ha;have tt:=JQ a;generalize sT a=t at *;have hr:cS (rH t):=aL xI (aL tt tt);have e5:iA [AV.agg (.ints .u64 [1718705420411056,234908883556509,2233514472574048,2117202627021982,765476049583133]) 5,eF (aN t t)]=some (rH t):=bGz (aL tt tt);have hv:cS (vH t):=aL (cR (cR qW)) (cT hr qY);have hu:cS (uH t):=aL (cT hr o1) (cA _);have e8:iA [eF (gS (rH t) (fe 1)),eF (fe cMN)]=some (uH t):=bF (cT hr o1) (cA _);have e13:iA [eF (cQ (cQ f0 (fe 1)) (aN (rH t) dF)),eF (gS (rH t) dF)]=some (vH t):=bF (cR (cR qW)) (cT hr qY);have e14:=FY hu hv;have hs0:cS (mC (uH t) (vH t)).1:=JO hu hv;have hs:cS (sH t):=FS hs0 (cR qW);have hc:cS (cH t):=FS (cR qW) hr;have ds:sH t=cond (sqH t) (mC (uH t) (vH t)).1 (cQ f0 (wX (aN (mC (uH t) (vH t)).1 t))):=rfl;have dc:cH t=cond (sqH t) (cQ f0 (fe 1)) (rH t):=rfl;have db:sqH t=(mC (uH t) (vH t)).2:=rfl;have hn1:cS (cQ (rH t) (fe 1)):=cR hr;have f19:=iQ hr o1;have f20:=bF hc hn1;have f22:=bF (aL hc hn1) (cA cDN);have f23:xC [eF (aN (aN (cH t) (cQ (rH t) (fe 1))) (fe cDN)),eF (vH t)]=some (nH t):=iQ (aL (aL hc hn1) (cA cDN)) hv;have hn:cS (nH t):=cR (aL (aL hc hn1) (cA cDN));have f24:=kW hs;have f25:=gF hs hs;have f26:iA [eF (gS (sH t) (sH t)),eF (vH t)]=some (w0H t):=bF (cT hs hs) hv;have f28:iA [eF (nH t),eF (fe cAN)]=some (w1H t):=bF hn (cA cAN);have f29:xC [eF (fe 1),eF (aN (sH t) (sH t))]=some (w2H t):=iQ o1 (aL hs hs);have f30:vU [eF (fe 1),eF (aN (sH t) (sH t))]=some (w3H t):=gF o1 (aL hs hs);have k0:cS (w0H t):=aL (cT hs hs) hv;have k1:cS (w1H t):=aL hn (cA cAN);have k2:cS (w2H t):=cR o1;have k3:cS (w3H t):=cT o1 (aL hs hs);have f31:=bF k0 k3;have f32:=bF k2 k1;have f33:=bF k1 k3;have f34:=bF k0 k2;have f35:aS4 [eF (aN (w0H t) (w3H t)),eF (aN (w2H t) (w1H t)),eF (aN (w1H t) (w3H t)),eF (aN (w0H t) (w2H t))]=some (o9 t):=aCA (aL k0 k3) (aL k2 k1) (aL k1 k3) (aL k0 k2);have f36:=Cs (p:=o9 t) ⟨aL k0 k3,aL k2 k1,aL k1 k3,aL k0 k2⟩;refine (bAD ..).trans ?_;refine aI (lV (n:=1) (by decide)) ?_;refine aI (show rCD []=some () from rfl) ?_;refine aI e2 ?_;refine aI (show rFI []=some () from rfl) ?_;refine aI (kW tt) ?_;refine aI e5 ?_;refine aI (gF hr o1) ?_;refine aI (y7 (n:=cMN) (nW (by decide +kernel)) (by decide +kernel)) ?_;refine aI e8 ?_;refine aI (pK o1) ?_;refine aI (bGA hr) ?_;refine aI (iQ (cR qW) (aL hr qY)) ?_;refine aI (bGB hr) ?_;refine aI e13 ?_;refine aI e14 ?_;generalize mC (uH t) (vH t)=R at *;refine aI (pK o1) ?_;dsimp only;rw [<-db];show _=some (eP (o9 t));generalize o9 t=H at *;generalize nH t=n at *;generalize w0H t=w0 at *;generalize w1H t=w1 at *;generalize w2H t=w2 at *;generalize w3H t=w3 at *;generalize vH t=v at *;generalize sH t=s at *;generalize cH t=c at *;generalize rH t=r at *;generalize sqH t=sq at *;cases sq
 ·rw [aE] at ds dc;rw [jB,aB];have e16:=bF hs0 tt;have e17:=BR (aL hs0 tt);have e18:=pK (JP (aL hs0 tt));subst ds dc;refine aI e16 ?_;refine aI e17 ?_;refine aI e18 ?_;refine aI f19 ?_;refine aI f20 ?_;refine aI (y7 (n:=cDN) (nW (by decide +kernel)) (by decide +kernel)) ?_;refine aI f22 ?_;refine aI f23 ?_;refine aI f24 ?_;refine aI f25 ?_;refine aI f26 ?_;refine aI (y7 (n:=cAN) (nW (by decide +kernel)) (by decide +kernel)) ?_;refine aI f28 ?_;refine aI f29 ?_;refine aI f30 ?_;refine aI f31 ?_;refine aI f32 ?_;refine aI f33 ?_;refine aI f34 ?_;refine aI f35 ?_;refine aI f36 ?_;rfl
 ·rw [aB] at ds dc;rw [iD,aE];subst ds dc;refine aI f19 ?_;refine aI f20 ?_;refine aI (y7 (n:=cDN) (nW (by decide +kernel)) (by decide +kernel)) ?_;refine aI f22 ?_;refine aI f23 ?_;refine aI f24 ?_;refine aI f25 ?_;refine aI f26 ?_;refine aI (y7 (n:=cAN) (nW (by decide +kernel)) (by decide +kernel)) ?_;refine aI f28 ?_;refine aI f29 ?_;refine aI f30 ?_;refine aI f31 ?_;refine aI f32 ?_;refine aI f33 ?_;refine aI f34 ?_;refine aI f35 ?_;refine aI f36 ?_;rfl
theorem aEd {a:List Int} (h:dP a=true):aHS [pG a]=some (o9 (sT a)):=B2 (λ a=>o9 (sT a)) h
end
end Go.Eng
