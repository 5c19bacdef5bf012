import Derived.Test.YtmicbaijcbkmjaaGreatZD2
namespace Go.Eng
noncomputable section
open Go Go.Proofs
set_option linter.all false
abbrev Yl:Nat:=54469307008909316920995813868745141605393597292927456921205312896311721017578
abbrev cAN:Nat:=25063068953384623474111414158702152701244531502492656460079210482610430750235
abbrev cMN:Nat:=1159843021668779879193775521855586647937357759715417654439879720876111806838
abbrev cDN:Nat:=40440834346308536858101042469323190826248399146238708352240133220865137265952
def aQj:Summ:={ T:=Pt,run:=DO λ p=>p,enc:=eP }
def Ym:FA Pt:=aQj.run
def u1E (p:Pt):Fe:=aO (gC p.z p.y) (cJ p.z p.y)
def VP (p:Pt):Fe:=aO p.x p.y
def C5 (p:Pt):Fe:=(mI (fe 1) (aO (u1E p) (aO (VP p) (VP p)))).1
def ziE (p:Pt):Fe:=aO (aO (aO (C5 p) (u1E p)) (aO (C5 p) (VP p))) p.t
def Em (p:Pt):Bool:=oX (aO p.t (ziE p))
def xE (p:Pt):Fe:=cond (Em p) (aO p.y iF) p.x
def yE (p:Pt):Fe:=cond (Em p) (aO p.x iF) p.y
def MA (p:Pt):Fe:=cond (Em p) (aO (aO (C5 p) (u1E p)) (fe Yl)) (aO (C5 p) (VP p))
def y2E (p:Pt):Fe:=cond (oX (aO (xE p) (ziE p))) (cJ f0 (yE p)) (yE p)
def i3 (p:Pt):Fe:=wJ (aO (MA p) (cJ p.z (y2E p)))
def MB:Summ:={ T:=List Int,run:=DO λ p=>lo 32 (fv (i3 p)%aJ),enc:=lS }
def VQ:FA (List Int):=MB.run
def vM (p q:Pt):Bool:=kO (aO p.x q.y) (aO p.y q.x) || kO (aO p.y q.y) (aO p.x q.x)
def aNO:Summ:={ T:=Bool,run:=Kz vM,enc:=λ t=>.bool t }
def aNP:FA Bool:=aNO.run
def Sq:Summ:={ T:=Bool,run:=DO λ p=>vM p gZ,enc:=λ t=>.bool t }
def aBb:FA Bool:=Sq.run
def rH (t:Fe):Fe:=aO iF (aO t t)
def vH (t:Fe):Fe:=aO (cJ (cJ f0 (fe 1)) (aO (rH t) dF)) (gC (rH t) dF)
def uH (t:Fe):Fe:=aO (gC (rH t) (fe 1)) (fe cMN)
def sqH (t:Fe):Bool:=(mI (uH t) (vH t)).2
def sH (t:Fe):Fe:=cond (sqH t) (mI (uH t) (vH t)).1 (cJ f0 (wJ (aO (mI (uH t) (vH t)).1 t)))
def cH (t:Fe):Fe:=cond (sqH t) (cJ f0 (fe 1)) (rH t)
def nH (t:Fe):Fe:=cJ (aO (aO (cH t) (cJ (rH t) (fe 1))) (fe cDN)) (vH t)
def w0H (t:Fe):Fe:=aO (gC (sH t) (sH t)) (vH t)
def w1H (t:Fe):Fe:=aO (nH t) (fe cAN)
def w2H (t:Fe):Fe:=cJ (fe 1) (aO (sH t) (sH t))
def w3H (t:Fe):Fe:=gC (fe 1) (aO (sH t) (sH t))
def nB (t:Fe):Pt:=⟨aO (w0H t) (w3H t),aO (w2H t) (w1H t),aO (w1H t) (w3H t),aO (w0H t) (w2H t)⟩
def aBc:Summ:={ T:=Pt,run:=wK λ a=>nB (rU a),enc:=eP }
def aBd:FA Pt:=aBc.run
def Sl (x y:Nat):Nat:=(1+y)%aJ*((1+aJ - y)%aJ)%aJ
def xC (x y:Nat):Nat:=(Bh 1 (Sl x y*(x*y%aJ*(x*y%aJ)%aJ)%aJ)).1
def VR (x y:Nat):Nat:=xC x y*Sl x y%aJ*(xC x y*(x*y%aJ)%aJ)%aJ*(x*y%aJ)%aJ
def En (x y:Nat):Bool:=Nat.beq (x*y%aJ*VR x y%aJ%2) 1
def xR (x y:Nat):Nat:=cond (En x y) (y*iN%aJ) x
def yR (x y:Nat):Nat:=cond (En x y) (x*iN%aJ) y
def PX (x y:Nat):Nat:=cond (En x y) (xC x y*Sl x y%aJ*Yl%aJ) (xC x y*(x*y%aJ)%aJ)
def y2R (x y:Nat):Nat:=cond (Nat.beq (xR x y*VR x y%aJ%2) 1) ((0+aJ - yR x y)%aJ) (yR x y)
def kC (x y:Nat):Nat:=oY (PX x y*((1+aJ - y2R x y)%aJ)%aJ)
def PY:Summ:={ T:=List Int,run:=QB λ r=>lo 32 (kC (Bf r).1 (Bf r).2),enc:=lS }
def PZ:FA (List Int):=PY.run
def VS {T:Type} (F:List Int->Nat->T):FA T
 | [.c (.s (.pl (.agg (.ints .u8 a) 32))),.c (.s (.dat (.ints .i64 d) j 1))]=>cond (fR a && kZ d j) (some (F a (vB d))) none
 | _=>none
def aNU:Cg:=⟨⟨dE [],[],dR⟩,[]⟩
theorem aQk (fu:Nat) (p:Pt):bB prog Tryz.f72 aNU fu [eP p]=some (aU [(p.x.a:Int),(p.x.b:Int),(p.x.c:Int),(p.x.d:Int),(p.x.e:Int),(p.y.a:Int),(p.y.b:Int),(p.y.c:Int),(p.y.d:Int),(p.y.e:Int),(p.z.a:Int),(p.z.b:Int),(p.z.c:Int),(p.z.d:Int),(p.z.e:Int),(p.t.a:Int),(p.t.b:Int),(p.t.c:Int),(p.t.d:Int),(p.t.e:Int)] 20):=by kernel_rfl
section
variable (T0:Type) (R0:FA T0) (aG:T0->List Int) (T1:Type) (R1:FA T1) (aN:T1->List Int)
end
section
variable (T0:Type) (R0:FA T0) (aG:T0->List Int) (T1:Type) (R1:FA T1) (aN:T1->List Int)
def aNV:Cg:=⟨⟨dE [(109,⟨R0,λ t=>AV.agg (.ints .u64 (aG t)) 20⟩),(72,⟨R1,λ t=>AV.agg (.ints .u64 (aN t)) 20⟩)],[],dR⟩,[]⟩
theorem aQl (fu:Nat):bB prog Tryz.f64 (aNV T0 R0 aG T1 R1 aN) fu []=(R0 []).bind λ t=>(R1 [.agg (.ints .u64 (aG t)) 20]).bind λ t=>some (AV.agg (.ints .u64 (aN t)) 20):=by kernel_rfl
end
section
variable (T0:Type) (R0:FA T0) (aG aM cB cE cR:T0->Int)
def aNW:Cg:=⟨⟨dE [(131,⟨R0,λ t=>aU [(aG t),(aM t),(cB t),(cE t),(cR t)] 5⟩)],[],dR⟩,[]⟩
theorem aQm (fu:Nat) (s:Str):bB prog Tryz.f83 (aNW T0 R0 aG aM cB cE cR) fu [.str s]=(R0 [.str s]).bind λ t=>some (aU [aG t,aM t,cB t,cE t,cR t] 5):=by kernel_rfl
end
section
variable (T0:Type) (R0:FA T0) (aG:T0->List Int) (T1:Type) (R1:FA T1) (aN:T1->List Int)
def aNX:Cg:=⟨⟨dE [(215,⟨R0,λ t=>AV.agg (.ints .u64 (aG t)) 20⟩),(72,⟨R1,λ t=>AV.agg (.ints .u64 (aN t)) 20⟩)],[],dR⟩,[]⟩
theorem aQn (fu:Nat) (p q:Pt):bB prog Tryz.f206 (aNX T0 R0 aG T1 R1 aN) fu [eP p,eP q]=(R0 [aU [(p.x.a:Int),(p.x.b:Int),(p.x.c:Int),(p.x.d:Int),(p.x.e:Int),(p.y.a:Int),(p.y.b:Int),(p.y.c:Int),(p.y.d:Int),(p.y.e:Int),(p.z.a:Int),(p.z.b:Int),(p.z.c:Int),(p.z.d:Int),(p.z.e:Int),(p.t.a:Int),(p.t.b:Int),(p.t.c:Int),(p.t.d:Int),(p.t.e:Int)] 20,aU [(q.x.a:Int),(q.x.b:Int),(q.x.c:Int),(q.x.d:Int),(q.x.e:Int),(q.y.a:Int),(q.y.b:Int),(q.y.c:Int),(q.y.d:Int),(q.y.e:Int),(q.z.a:Int),(q.z.b:Int),(q.z.c:Int),(q.z.d:Int),(q.z.e:Int),(q.t.a:Int),(q.t.b:Int),(q.t.c:Int),(q.t.d:Int),(q.t.e:Int)] 20]).bind λ t=>(R1 [.agg (.ints .u64 (aG t)) 20]).bind λ t=>some (AV.agg (.ints .u64 (aN t)) 20):=by kernel_rfl
end
section
variable (T0:Type) (R0:FA T0) (aG:T0->List Int) (T1:Type) (R1:FA T1) (aN:T1->List Int)
def aNY:Cg:=⟨⟨dE [(73,⟨R0,λ t=>AV.agg (.ints .u64 (aG t)) 20⟩),(72,⟨R1,λ t=>AV.agg (.ints .u64 (aN t)) 20⟩)],[],dR⟩,[]⟩
theorem aQo (fu:Nat) (p:Pt) (a:List Int):bB prog Tryz.f36 (aNY T0 R0 aG T1 R1 aN) fu [eP p,W8 a]=(R0 [aU [(p.x.a:Int),(p.x.b:Int),(p.x.c:Int),(p.x.d:Int),(p.x.e:Int),(p.y.a:Int),(p.y.b:Int),(p.y.c:Int),(p.y.d:Int),(p.y.e:Int),(p.z.a:Int),(p.z.b:Int),(p.z.c:Int),(p.z.d:Int),(p.z.e:Int),(p.t.a:Int),(p.t.b:Int),(p.t.c:Int),(p.t.d:Int),(p.t.e:Int)] 20,.agg (.ints .u64 a) 8]).bind λ t=>(R1 [.agg (.ints .u64 (aG t)) 20]).bind λ t=>some (AV.agg (.ints .u64 (aN t)) 20):=by kernel_rfl
end
section
variable (T0:Type) (R0:FA T0) (aG aM cB cE:T0->List Int) (T1:Type) (R1:FA T1) (aN bI gV gW iL:T1->Int) (T2:Type) (R2:FA T2) (bC:T2->Bool)
def aNZ:Cg:=⟨⟨dE [(74,⟨R0,λ t=>AV.tup [.s (.pl (.agg (.ints .u64 (aG t)) 5)),.s (.pl (.agg (.ints .u64 (aM t)) 5)),.s (.pl (.agg (.ints .u64 (cB t)) 5)),.s (.pl (.agg (.ints .u64 (cE t)) 5))]⟩),(76,⟨R1,λ t=>aU [(aN t),(bI t),(gV t),(gW t),(iL t)] 5⟩),(129,⟨R2,λ t=>AV.bool (bC t)⟩)],[],dR⟩,[]⟩
theorem aQp (fu:Nat) (p q:Pt):bB prog Tryz.f121 (aNZ T0 R0 aG aM cB cE T1 R1 aN bI gV gW iL T2 R2 bC) fu [eP p,eP q]=(R0 [aU [(p.x.a:Int),(p.x.b:Int),(p.x.c:Int),(p.x.d:Int),(p.x.e:Int),(p.y.a:Int),(p.y.b:Int),(p.y.c:Int),(p.y.d:Int),(p.y.e:Int),(p.z.a:Int),(p.z.b:Int),(p.z.c:Int),(p.z.d:Int),(p.z.e:Int),(p.t.a:Int),(p.t.b:Int),(p.t.c:Int),(p.t.d:Int),(p.t.e:Int)] 20]).bind λ t=>(R0 [aU [(q.x.a:Int),(q.x.b:Int),(q.x.c:Int),(q.x.d:Int),(q.x.e:Int),(q.y.a:Int),(q.y.b:Int),(q.y.c:Int),(q.y.d:Int),(q.y.e:Int),(q.z.a:Int),(q.z.b:Int),(q.z.c:Int),(q.z.d:Int),(q.z.e:Int),(q.t.a:Int),(q.t.b:Int),(q.t.c:Int),(q.t.d:Int),(q.t.e:Int)] 20]).bind λ dH=>(R1 [.agg (.ints .u64 (aG t)) 5,.agg (.ints .u64 (aM dH)) 5]).bind λ eU=>(R1 [.agg (.ints .u64 (aM t)) 5,.agg (.ints .u64 (aG dH)) 5]).bind λ gE=>(R2 [aU [aN eU,bI eU,gV eU,gW eU,iL eU] 5,aU [aN gE,bI gE,gV gE,gW gE,iL gE] 5]).bind λ gT=>bif bC gT then some (AV.bool true) else (R1 [.agg (.ints .u64 (aM t)) 5,.agg (.ints .u64 (aM dH)) 5]).bind λ gJ=>(R1 [.agg (.ints .u64 (aG t)) 5,.agg (.ints .u64 (aG dH)) 5]).bind λ t=>(R2 [aU [aN gJ,bI gJ,gV gJ,gW gJ,iL gJ] 5,aU [aN t,bI t,gV t,gW t,iL t] 5]).bind λ t=>some (AV.bool (bC t)):=by kernel_rfl
end
section
variable (T0:Type) (R0:FA T0) (aG:T0->List Int) (T1:Type) (R1:FA T1) (aN:T1->Bool)
def aN0:Cg:=⟨⟨dE [(64,⟨R0,λ t=>AV.agg (.ints .u64 (aG t)) 20⟩),(121,⟨R1,λ t=>AV.bool (aN t)⟩)],[],dR⟩,[]⟩
theorem aQq (fu:Nat) (p:Pt):bB prog Tryz.f71 (aN0 T0 R0 aG T1 R1 aN) fu [eP p]=(R0 []).bind λ t=>(R1 [aU [(p.x.a:Int),(p.x.b:Int),(p.x.c:Int),(p.x.d:Int),(p.x.e:Int),(p.y.a:Int),(p.y.b:Int),(p.y.c:Int),(p.y.d:Int),(p.y.e:Int),(p.z.a:Int),(p.z.b:Int),(p.z.c:Int),(p.z.d:Int),(p.z.e:Int),(p.t.a:Int),(p.t.b:Int),(p.t.c:Int),(p.t.d:Int),(p.t.e:Int)] 20,.agg (.ints .u64 (aG t)) 20]).bind λ t=>some (AV.bool (aN t)):=by kernel_rfl
end
section
variable (T0:Type) (R0:FA T0) (aG aM cB cE:T0->List Int) (T1:Type) (R1:FA T1) (aN bI gV gW iL:T1->Int) (T2:Type) (R2:FA T2) (bC bW dW eT eX:T2->Int) (T3:Type) (R3:FA T3) (bO cI qG zG zH:T3->Int) (T4:Type) (R4:FA T4) (eV jS zI Bb Be:T4->Int) (T5:Type) (R5:FA T5) (fW iU qH qI qJ:T5->Int) (T6:Type) (R6:FA T6) (oH oI Ej Ek El:T6->Int) (f6f:T6->Bool) (T7:Type) (R7:FA T7) (xA:T7->Bool) (T8:Type) (R8:FA T8) (T9:Type) (R9:FA T9) (zE Cy L7 L8 L9:T9->Int) (So:Type) (R10:FA So) (Av Bm Bo Bq Br:So->Int) (T11:Type) (Yh:FA T11) (Cz C0 C1 C2 C3:T11->Int) (T12:Type) (VM:FA T12) (C4:T12->List Int)
def aN1:Cg:=⟨⟨dE [(74,⟨R0,λ t=>AV.tup [.s (.pl (.agg (.ints .u64 (aG t)) 5)),.s (.pl (.agg (.ints .u64 (aM t)) 5)),.s (.pl (.agg (.ints .u64 (cB t)) 5)),.s (.pl (.agg (.ints .u64 (cE t)) 5))]⟩),(75,⟨R1,λ t=>aU [(aN t),(bI t),(gV t),(gW t),(iL t)] 5⟩),(77,⟨R2,λ t=>aU [(bC t),(bW t),(dW t),(eT t),(eX t)] 5⟩),(76,⟨R3,λ t=>aU [(bO t),(cI t),(qG t),(zG t),(zH t)] 5⟩),(79,⟨R4,λ t=>aU [(eV t),(jS t),(zI t),(Bb t),(Be t)] 5⟩),(80,⟨R5,λ t=>aU [(fW t),(iU t),(qH t),(qI t),(qJ t)] 5⟩),(78,⟨R6,λ t=>AV.tup [.s (.pl (.agg (.ints .u64 [(oH t),(oI t),(Ej t),(Ek t),(El t)]) 5)),.s (.pl (.bool (f6f t)))]⟩),(81,⟨R7,λ t=>AV.bool (xA t)⟩),(82,⟨R8,λ t=>eF iF⟩),(83,⟨R9,λ t=>aU [(zE t),(Cy t),(L7 t),(L8 t),(L9 t)] 5⟩),(84,⟨R10,λ t=>aU [(Av t),(Bm t),(Bo t),(Bq t),(Br t)] 5⟩),(85,⟨Yh,λ t=>aU [(Cz t),(C0 t),(C1 t),(C2 t),(C3 t)] 5⟩),(86,⟨VM,λ t=>AV.agg (.ints .u8 (C4 t)) 32⟩)],[],dR⟩,[]⟩
theorem aQr (fu:Nat) (p:Pt):bB prog Tryz.f37 (aN1 T0 R0 aG aM cB cE T1 R1 aN bI gV gW iL T2 R2 bC bW dW eT eX T3 R3 bO cI qG zG zH T4 R4 eV jS zI Bb Be T5 R5 fW iU qH qI qJ T6 R6 oH oI Ej Ek El f6f T7 R7 xA T8 R8 T9 R9 zE Cy L7 L8 L9 So R10 Av Bm Bo Bq Br T11 Yh Cz C0 C1 C2 C3 T12 VM C4) fu [eP p]=(R0 [aU [(p.x.a:Int),(p.x.b:Int),(p.x.c:Int),(p.x.d:Int),(p.x.e:Int),(p.y.a:Int),(p.y.b:Int),(p.y.c:Int),(p.y.d:Int),(p.y.e:Int),(p.z.a:Int),(p.z.b:Int),(p.z.c:Int),(p.z.d:Int),(p.z.e:Int),(p.t.a:Int),(p.t.b:Int),(p.t.c:Int),(p.t.d:Int),(p.t.e:Int)] 20]).bind λ t=>(R1 [.agg (.ints .u64 (cB t)) 5,.agg (.ints .u64 (aM t)) 5]).bind λ dH=>(R2 [.agg (.ints .u64 (cB t)) 5,.agg (.ints .u64 (aM t)) 5]).bind λ eU=>(R3 [aU [aN dH,bI dH,gV dH,gW dH,iL dH] 5,aU [bC eU,bW eU,dW eU,eT eU,eX eU] 5]).bind λ gE=>(R3 [.agg (.ints .u64 (aG t)) 5,.agg (.ints .u64 (aM t)) 5]).bind λ gT=>(R4 [.int .u64 1]).bind λ gJ=>(R5 [aU [bO gT,cI gT,qG gT,zG gT,zH gT] 5]).bind λ kA=>(R3 [aU [bO gE,cI gE,qG gE,zG gE,zH gE] 5,aU [fW kA,iU kA,qH kA,qI kA,qJ kA] 5]).bind λ vI=>(R6 [aU [eV gJ,jS gJ,zI gJ,Bb gJ,Be gJ] 5,aU [bO vI,cI vI,qG vI,zG vI,zH vI] 5]).bind λ tP=>(R3 [aU [oH tP,oI tP,Ej tP,Ek tP,El tP] 5,aU [bO gE,cI gE,qG gE,zG gE,zH gE] 5]).bind λ tQ=>(R3 [aU [oH tP,oI tP,Ej tP,Ek tP,El tP] 5,aU [bO gT,cI gT,qG gT,zG gT,zH gT] 5]).bind λ gX=>(R3 [aU [bO tQ,cI tQ,qG tQ,zG tQ,zH tQ] 5,aU [bO gX,cI gX,qG gX,zG gX,zH gX] 5]).bind λ gM=>(R3 [aU [bO gM,cI gM,qG gM,zG gM,zH gM] 5,.agg (.ints .u64 (cE t)) 5]).bind λ iV=>(R3 [.agg (.ints .u64 (cE t)) 5,aU [bO iV,cI iV,qG iV,zG iV,zH iV] 5]).bind λ fO=>(R7 [aU [bO fO,cI fO,qG fO,zG fO,zH fO] 5]).bind λ gO=>bif xA gO then (R8 []).bind λ qE=>(R3 [.agg (.ints .u64 (aM t)) 5,aU [1718705420411056,234908883556509,2233514472574048,2117202627021982,765476049583133] 5]).bind λ mS=>(R3 [.agg (.ints .u64 (aG t)) 5,aU [1718705420411056,234908883556509,2233514472574048,2117202627021982,765476049583133] 5]).bind λ gA=>(R9 [.str ([(53:UInt8),52,52,54,57,51,48,55,48,48,56,57,48,57,51,49,54,57,50,48,57,57,53,56,49,51,56,54,56,55,52,53,49,52,49,54,48,53].append [(51:UInt8),57,51,53,57,55,50,57,50,57,50,55,52,53,54,57,50,49,50,48,53,51,49,50,56,57,54,51,49,49,55,50,49,48,49,55,53,55,56])]).bind λ gY=>(R3 [aU [bO tQ,cI tQ,qG tQ,zG tQ,zH tQ] 5,aU [zE gY,Cy gY,L7 gY,L8 gY,L9 gY] 5]).bind λ oG=>(R3 [aU [bO mS,cI mS,qG mS,zG mS,zH mS] 5,aU [bO iV,cI iV,qG iV,zG iV,zH iV] 5]).bind λ vJ=>(R7 [aU [bO vJ,cI vJ,qG vJ,zG vJ,zH vJ] 5]).bind λ zJ=>bif xA zJ then (R10 [aU [bO gA,cI gA,qG gA,zG gA,zH gA] 5]).bind λ Aw=>(R2 [.agg (.ints .u64 (cB t)) 5,aU [Av Aw,Bm Aw,Bo Aw,Bq Aw,Br Aw] 5]).bind λ t=>(R3 [aU [bO oG,cI oG,qG oG,zG oG,zH oG] 5,aU [bC t,bW t,dW t,eT t,eX t] 5]).bind λ t=>(Yh [aU [bO t,cI t,qG t,zG t,zH t] 5]).bind λ t=>(VM [aU [Cz t,C0 t,C1 t,C2 t,C3 t] 5]).bind λ t=>some (AV.agg (.ints .u8 (C4 t)) 32) else (R2 [.agg (.ints .u64 (cB t)) 5,aU [bO gA,cI gA,qG gA,zG gA,zH gA] 5]).bind λ t=>(R3 [aU [bO oG,cI oG,qG oG,zG oG,zH oG] 5,aU [bC t,bW t,dW t,eT t,eX t] 5]).bind λ t=>(Yh [aU [bO t,cI t,qG t,zG t,zH t] 5]).bind λ t=>(VM [aU [Cz t,C0 t,C1 t,C2 t,C3 t] 5]).bind λ t=>some (AV.agg (.ints .u8 (C4 t)) 32) else (R3 [.agg (.ints .u64 (aG t)) 5,aU [bO iV,cI iV,qG iV,zG iV,zH iV] 5]).bind λ qE=>(R7 [aU [bO qE,cI qE,qG qE,zG qE,zH qE] 5]).bind λ mS=>bif xA mS then (R10 [.agg (.ints .u64 (aM t)) 5]).bind λ gA=>(R2 [.agg (.ints .u64 (cB t)) 5,aU [Av gA,Bm gA,Bo gA,Bq gA,Br gA] 5]).bind λ t=>(R3 [aU [bO gX,cI gX,qG gX,zG gX,zH gX] 5,aU [bC t,bW t,dW t,eT t,eX t] 5]).bind λ t=>(Yh [aU [bO t,cI t,qG t,zG t,zH t] 5]).bind λ t=>(VM [aU [Cz t,C0 t,C1 t,C2 t,C3 t] 5]).bind λ t=>some (AV.agg (.ints .u8 (C4 t)) 32) else (R2 [.agg (.ints .u64 (cB t)) 5,.agg (.ints .u64 (aM t)) 5]).bind λ t=>(R3 [aU [bO gX,cI gX,qG gX,zG gX,zH gX] 5,aU [bC t,bW t,dW t,eT t,eX t] 5]).bind λ t=>(Yh [aU [bO t,cI t,qG t,zG t,zH t] 5]).bind λ t=>(VM [aU [Cz t,C0 t,C1 t,C2 t,C3 t] 5]).bind λ t=>some (AV.agg (.ints .u8 (C4 t)) 32):=by kernel_rfl
end
section
variable (T0:Type) (R0:FA T0) (aG aM cB cE cR:T0->Int) (T1:Type) (R1:FA T1) (T2:Type) (R2:FA T2) (bC bW dW eT eX:T2->Int) (T3:Type) (R3:FA T3) (T4:Type) (R4:FA T4) (eV jS zI Bb Be:T4->Int) (T5:Type) (R5:FA T5) (fW iU qH qI qJ:T5->Int) (T6:Type) (R6:FA T6) (oH oI Ej Ek El:T6->Int) (T7:Type) (R7:FA T7) (xA Eh f7c f7d f7e:T7->Int) (T8:Type) (R8:FA T8) (vL wY Bt KE KF:T8->Int) (T9:Type) (R9:FA T9) (zE Cy L7 L8 L9:T9->Int) (So:Type) (R10:FA So) (Av Bm Bo Bq Br:So->Int) (VN:So->Bool) (T11:Type) (Yh:FA T11) (Cz C0 C1 C2 C3:T11->Int) (T12:Type) (VM:FA T12) (C4:T12->List Int) (T13:Type) (R13:FA T13) (Si:T13->List Int)
def aN2:Cg:=⟨⟨dE [(79,⟨R0,λ t=>aU [(aG t),(aM t),(cB t),(cE t),(cR t)] 5⟩),(118,⟨R1,λ t=>AV.agg (.ints .u64 ([929955233495203,466365720129213,1662059464998953,2033849074728123,1442794654840575])) 5⟩),(157,⟨R2,λ t=>aU [(bC t),(bW t),(dW t),(eT t),(eX t)] 5⟩),(82,⟨R3,λ t=>eF iF⟩),(80,⟨R4,λ t=>aU [(eV t),(jS t),(zI t),(Bb t),(Be t)] 5⟩),(76,⟨R5,λ t=>aU [(fW t),(iU t),(qH t),(qI t),(qJ t)] 5⟩),(75,⟨R6,λ t=>aU [(oH t),(oI t),(Ej t),(Ek t),(El t)] 5⟩),(83,⟨R7,λ t=>aU [(xA t),(Eh t),(f7c t),(f7d t),(f7e t)] 5⟩),(84,⟨R8,λ t=>aU [(vL t),(wY t),(Bt t),(KE t),(KF t)] 5⟩),(77,⟨R9,λ t=>aU [(zE t),(Cy t),(L7 t),(L8 t),(L9 t)] 5⟩),(78,⟨R10,λ t=>AV.tup [.s (.pl (.agg (.ints .u64 [(Av t),(Bm t),(Bo t),(Bq t),(Br t)]) 5)),.s (.pl (.bool (VN t)))]⟩),(85,⟨Yh,λ t=>aU [(Cz t),(C0 t),(C1 t),(C2 t),(C3 t)] 5⟩),(120,⟨VM,λ t=>AV.agg (.ints .u64 (C4 t)) 20⟩),(72,⟨R13,λ t=>AV.agg (.ints .u64 (Si t)) 20⟩)],[],dR⟩,[]⟩
theorem aQs (fu:Nat) (a:List Int):bB prog Tryz.f205 (aN2 T0 R0 aG aM cB cE cR T1 R1 T2 R2 bC bW dW eT eX T3 R3 T4 R4 eV jS zI Bb Be T5 R5 fW iU qH qI qJ T6 R6 oH oI Ej Ek El T7 R7 xA Eh f7c f7d f7e T8 R8 vL wY Bt KE KF T9 R9 zE Cy L7 L8 L9 So R10 Av Bm Bo Bq Br VN T11 Yh Cz C0 C1 C2 C3 T12 VM C4 T13 R13 Si) fu [.agg (.ints .u8 a) 32]=(R0 [.int .u64 1]).bind λ t=>(R1 []).bind λ dH=>(R2 [.agg (.ints .u8 a) 32]).bind λ eU=>(R3 []).bind λ gE=>(R4 [aU [bC eU,bW eU,dW eU,eT eU,eX eU] 5]).bind λ gT=>(R5 [aU [1718705420411056,234908883556509,2233514472574048,2117202627021982,765476049583133] 5,aU [eV gT,jS gT,zI gT,Bb gT,Be gT] 5]).bind λ gJ=>(R6 [aU [fW gJ,iU gJ,qH gJ,qI gJ,qJ gJ] 5,aU [aG t,aM t,cB t,cE t,cR t] 5]).bind λ kA=>(R7 [.str ([(49:UInt8),49,53,57,56,52,51,48,50,49,54,54,56,55,55,57,56,55,57,49,57,51,55,55,53,53,50,49,56,53,53,53,56,54,54,52,55,57].append [(51:UInt8),55,51,53,55,55,53,57,55,49,53,52,49,55,54,53,52,52,51,57,56,55,57,55,50,48,56,55,54,49,49,49,56,48,54,56,51,56])]).bind λ vI=>(R5 [aU [oH kA,oI kA,Ej kA,Ek kA,El kA] 5,aU [xA vI,Eh vI,f7c vI,f7d vI,f7e vI] 5]).bind λ tP=>(R8 [aU [aG t,aM t,cB t,cE t,cR t] 5]).bind λ tQ=>(R5 [aU [fW gJ,iU gJ,qH gJ,qI gJ,qJ gJ] 5,aU [929955233495203,466365720129213,1662059464998953,2033849074728123,1442794654840575] 5]).bind λ gX=>(R9 [aU [vL tQ,wY tQ,Bt tQ,KE tQ,KF tQ] 5,aU [fW gX,iU gX,qH gX,qI gX,qJ gX] 5]).bind λ gM=>(R6 [aU [fW gJ,iU gJ,qH gJ,qI gJ,qJ gJ] 5,aU [929955233495203,466365720129213,1662059464998953,2033849074728123,1442794654840575] 5]).bind λ iV=>(R5 [aU [zE gM,Cy gM,L7 gM,L8 gM,L9 gM] 5,aU [oH iV,oI iV,Ej iV,Ek iV,El iV] 5]).bind λ fO=>(R10 [aU [fW tP,iU tP,qH tP,qI tP,qJ tP] 5,aU [fW fO,iU fO,qH fO,qI fO,qJ fO] 5]).bind λ gO=>(R8 [aU [aG t,aM t,cB t,cE t,cR t] 5]).bind λ qE=>bif !VN gO then (R5 [aU [Av gO,Bm gO,Bo gO,Bq gO,Br gO] 5,aU [bC eU,bW eU,dW eU,eT eU,eX eU] 5]).bind λ mS=>(Yh [aU [fW mS,iU mS,qH mS,qI mS,qJ mS] 5]).bind λ gA=>(R8 [aU [Cz gA,C0 gA,C1 gA,C2 gA,C3 gA] 5]).bind λ gY=>(R9 [aU [fW gJ,iU gJ,qH gJ,qI gJ,qJ gJ] 5,aU [aG t,aM t,cB t,cE t,cR t] 5]).bind λ oG=>(R5 [aU [fW gJ,iU gJ,qH gJ,qI gJ,qJ gJ] 5,aU [zE oG,Cy oG,L7 oG,L8 oG,L9 oG] 5]).bind λ vJ=>(R7 [.str ([(52:UInt8),48,52,52,48,56,51,52,51,52,54,51,48,56,53,51,54,56,53,56,49,48,49,48,52,50,52,54,57,51,50,51,49,57,48,56,50,54].append [(50:UInt8),52,56,51,57,57,49,52,54,50,51,56,55,48,56,51,53,50,50,52,48,49,51,51,50,50,48,56,54,53,49,51,55,50,54,53,57,53,50])]).bind λ zJ=>(R5 [aU [fW vJ,iU vJ,qH vJ,qI vJ,qJ vJ] 5,aU [xA zJ,Eh zJ,f7c zJ,f7d zJ,f7e zJ] 5]).bind λ Aw=>(R9 [aU [fW Aw,iU Aw,qH Aw,qI Aw,qJ Aw] 5,aU [fW fO,iU fO,qH fO,qI fO,qJ fO] 5]).bind λ Bu=>(R4 [aU [vL gY,wY gY,Bt gY,KE gY,KF gY] 5]).bind λ Bv=>(R6 [aU [vL gY,wY gY,Bt gY,KE gY,KF gY] 5,aU [vL gY,wY gY,Bt gY,KE gY,KF gY] 5]).bind λ Bw=>(R5 [aU [oH Bw,oI Bw,Ej Bw,Ek Bw,El Bw] 5,aU [fW fO,iU fO,qH fO,qI fO,qJ fO] 5]).bind λ vK=>(R7 [.str ([(50:UInt8),53,48,54,51,48,54,56,57,53,51,51,56,52,54,50,51,52,55,52,49,49,49,52,49,52,49,53,56,55,48,50,49,53,50,55,48,49].append [(50:UInt8),52,52,53,51,49,53,48,50,52,57,50,54,53,54,52,54,48,48,55,57,50,49,48,52,56,50,54,49,48,52,51,48,55,53,48,50,51,53])]).bind λ KG=>(R5 [aU [zE Bu,Cy Bu,L7 Bu,L8 Bu,L9 Bu] 5,aU [xA KG,Eh KG,f7c KG,f7d KG,f7e KG] 5]).bind λ Bz=>(R9 [aU [aG t,aM t,cB t,cE t,cR t] 5,aU [eV Bv,jS Bv,zI Bv,Bb Bv,Be Bv] 5]).bind λ B0=>(R6 [aU [aG t,aM t,cB t,cE t,cR t] 5,aU [eV Bv,jS Bv,zI Bv,Bb Bv,Be Bv] 5]).bind λ t=>(R5 [aU [fW vK,iU vK,qH vK,qI vK,qJ vK] 5,aU [oH t,oI t,Ej t,Ek t,El t] 5]).bind λ aH0=>(R5 [aU [zE B0,Cy B0,L7 B0,L8 B0,L9 B0] 5,aU [fW Bz,iU Bz,qH Bz,qI Bz,qJ Bz] 5]).bind λ aH1=>(R5 [aU [fW Bz,iU Bz,qH Bz,qI Bz,qJ Bz] 5,aU [oH t,oI t,Ej t,Ek t,El t] 5]).bind λ t=>(R5 [aU [fW vK,iU vK,qH vK,qI vK,qJ vK] 5,aU [zE B0,Cy B0,L7 B0,L8 B0,L9 B0] 5]).bind λ aH2=>(VM [aU [fW aH0,iU aH0,qH aH0,qI aH0,qJ aH0] 5,aU [fW aH1,iU aH1,qH aH1,qI aH1,qJ aH1] 5,aU [fW t,iU t,qH t,qI t,qJ t] 5,aU [fW aH2,iU aH2,qH aH2,qI aH2,qJ aH2] 5]).bind λ t=>(R13 [.agg (.ints .u64 (C4 t)) 20]).bind λ t=>some (AV.agg (.ints .u64 (Si t)) 20) else (R9 [aU [fW gJ,iU gJ,qH gJ,qI gJ,qJ gJ] 5,aU [aG t,aM t,cB t,cE t,cR t] 5]).bind λ mS=>(R5 [aU [vL qE,wY qE,Bt qE,KE qE,KF qE] 5,aU [zE mS,Cy mS,L7 mS,L8 mS,L9 mS] 5]).bind λ gA=>(R7 [.str ([(52:UInt8),48,52,52,48,56,51,52,51,52,54,51,48,56,53,51,54,56,53,56,49,48,49,48,52,50,52,54,57,51,50,51,49,57,48,56,50,54].append [(50:UInt8),52,56,51,57,57,49,52,54,50,51,56,55,48,56,51,53,50,50,52,48,49,51,51,50,50,48,56,54,53,49,51,55,50,54,53,57,53,50])]).bind λ gY=>(R5 [aU [fW gA,iU gA,qH gA,qI gA,qJ gA] 5,aU [xA gY,Eh gY,f7c gY,f7d gY,f7e gY] 5]).bind λ oG=>(R9 [aU [fW oG,iU oG,qH oG,qI oG,qJ oG] 5,aU [fW fO,iU fO,qH fO,qI fO,qJ fO] 5]).bind λ vJ=>(R4 [aU [Av gO,Bm gO,Bo gO,Bq gO,Br gO] 5]).bind λ zJ=>(R6 [aU [Av gO,Bm gO,Bo gO,Bq gO,Br gO] 5,aU [Av gO,Bm gO,Bo gO,Bq gO,Br gO] 5]).bind λ Aw=>(R5 [aU [oH Aw,oI Aw,Ej Aw,Ek Aw,El Aw] 5,aU [fW fO,iU fO,qH fO,qI fO,qJ fO] 5]).bind λ Bu=>(R7 [.str ([(50:UInt8),53,48,54,51,48,54,56,57,53,51,51,56,52,54,50,51,52,55,52,49,49,49,52,49,52,49,53,56,55,48,50,49,53,50,55,48,49].append [(50:UInt8),52,52,53,51,49,53,48,50,52,57,50,54,53,54,52,54,48,48,55,57,50,49,48,52,56,50,54,49,48,52,51,48,55,53,48,50,51,53])]).bind λ Bv=>(R5 [aU [zE vJ,Cy vJ,L7 vJ,L8 vJ,L9 vJ] 5,aU [xA Bv,Eh Bv,f7c Bv,f7d Bv,f7e Bv] 5]).bind λ Bw=>(R9 [aU [aG t,aM t,cB t,cE t,cR t] 5,aU [eV zJ,jS zJ,zI zJ,Bb zJ,Be zJ] 5]).bind λ vK=>(R6 [aU [aG t,aM t,cB t,cE t,cR t] 5,aU [eV zJ,jS zJ,zI zJ,Bb zJ,Be zJ] 5]).bind λ t=>(R5 [aU [fW Bu,iU Bu,qH Bu,qI Bu,qJ Bu] 5,aU [oH t,oI t,Ej t,Ek t,El t] 5]).bind λ KG=>(R5 [aU [zE vK,Cy vK,L7 vK,L8 vK,L9 vK] 5,aU [fW Bw,iU Bw,qH Bw,qI Bw,qJ Bw] 5]).bind λ Bz=>(R5 [aU [fW Bw,iU Bw,qH Bw,qI Bw,qJ Bw] 5,aU [oH t,oI t,Ej t,Ek t,El t] 5]).bind λ t=>(R5 [aU [fW Bu,iU Bu,qH Bu,qI Bu,qJ Bu] 5,aU [zE vK,Cy vK,L7 vK,L8 vK,L9 vK] 5]).bind λ B0=>(VM [aU [fW KG,iU KG,qH KG,qI KG,qJ KG] 5,aU [fW Bz,iU Bz,qH Bz,qI Bz,qJ Bz] 5,aU [fW t,iU t,qH t,qI t,qJ t] 5,aU [fW B0,iU B0,qH B0,qI B0,qJ B0] 5]).bind λ t=>(R13 [.agg (.ints .u64 (C4 t)) 20]).bind λ t=>some (AV.agg (.ints .u64 (Si t)) 20):=by kernel_rfl
end
section
variable (T0:Type) (R0:FA T0) (aG:T0->List Int) (aM:T0->Nat) (cB:T0->List Int) (cE:T0->Nat) (T1:Type) (R1:FA T1) (aN:T1->List Int) (bI:T1->Nat) (T2:Type) (R2:FA T2) (bC:T2->List Int) (bW:T2->Nat) (T3:Type) (R3:FA T3) (bO:T3->List Int) (cI:T3->Nat) (T4:Type) (R4:FA T4) (eV:T4->List Int) (jS:T4->Nat) (zI:T4->Bool) (T5:Type) (R5:FA T5) (fW:T5->Bool) (T6:Type) (R6:FA T6) (oH:T6->List Int) (oI:T6->Nat) (T7:Type) (R7:FA T7) (xA:T7->List Int) (Eh:T7->Nat) (T8:Type) (R8:FA T8) (vL:T8->List Int) (wY:T8->Nat) (T9:Type) (R9:FA T9) (zE:T9->List Int)
def aN3:Cg:=⟨⟨dE [(98,⟨R0,λ t=>AV.tup [.s (dI (aG t) (aM t)),.s (dI (cB t) (cE t))]⟩),(48,⟨R1,λ t=>AV.s (dI (aN t) (bI t))⟩),(41,⟨R2,λ t=>AV.s (dI (bC t) (bW t))⟩),(40,⟨R3,λ t=>AV.s (dI (bO t) (cI t))⟩),(49,⟨R4,λ t=>AV.tup [.s (dI (eV t) (jS t)),.s (.pl (.bool (zI t)))]⟩),(46,⟨R5,λ t=>AV.bool (fW t)⟩),(97,⟨R6,λ t=>AV.s (dI (oH t) (oI t))⟩),(56,⟨R7,λ t=>AV.s (dI (xA t) (Eh t))⟩),(50,⟨R8,λ t=>AV.s (dI (vL t) (wY t))⟩),(99,⟨R9,λ t=>AV.agg (.ints .u8 (zE t)) 32⟩)],[],dR⟩,[]⟩
theorem aQt (fu:Nat) (p:RP):bB prog Tryz.f51 (aN3 T0 R0 aG aM cB cE T1 R1 aN bI T2 R2 bC bW T3 R3 bO cI T4 R4 eV jS zI T5 R5 fW T6 R6 oH oI T7 R7 xA Eh T8 R8 vL wY T9 R9 zE) fu [Ei p]=(R0 [.c (.mix [dI (nb p.x) (nb p.x).length,dI (nb p.y) (nb p.y).length,dI (nb p.z) (nb p.z).length])]).bind λ t=>(R1 [.s (dI [1] 1),.s (dI (cB t) (cE t))]).bind λ dH=>(R2 [.s (dI [1] 1),.s (dI (cB t) (cE t))]).bind λ eU=>(R3 [.s (dI (aN dH) (bI dH)),.s (dI (bC eU) (bW eU))]).bind λ gE=>(R3 [.s (dI (aG t) (aM t)),.s (dI (cB t) (cE t))]).bind λ gT=>(R3 [.s (dI (bO gT) (cI gT)),.s (dI (bO gT) (cI gT))]).bind λ gJ=>(R3 [.s (dI (bO gE) (cI gE)),.s (dI (bO gJ) (cI gJ))]).bind λ kA=>(R4 [.s (dI [1] 1),.s (dI (bO kA) (cI kA))]).bind λ vI=>(R3 [.s (dI (eV vI) (jS vI)),.s (dI (bO gE) (cI gE))]).bind λ tP=>(R3 [.s (dI (eV vI) (jS vI)),.s (dI (bO gT) (cI gT))]).bind λ tQ=>(R3 [.s (dI (bO tP) (cI tP)),.s (dI (bO tQ) (cI tQ))]).bind λ gX=>(R3 [.s (dI (bO gX) (cI gX)),.s (dI (bO gT) (cI gT))]).bind λ gM=>(R3 [.s (dI (bO gT) (cI gT)),.s (dI (bO gM) (cI gM))]).bind λ iV=>(R5 [.s (dI (bO iV) (cI iV))]).bind λ fO=>bif fW fO then (R6 []).bind λ gO=>(R3 [.s (dI (cB t) (cE t)),.s (dI (oH gO) (oI gO))]).bind λ qE=>(R6 []).bind λ mS=>(R3 [.s (dI (aG t) (aM t)),.s (dI (oH mS) (oI mS))]).bind λ t=>(R7 [.str ([(53:UInt8),52,52,54,57,51,48,55,48,48,56,57,48,57,51,49,54,57,50,48,57,57,53,56,49,51,56,54,56,55,52,53,49,52,49,54,48,53].append [(51:UInt8),57,51,53,57,55,50,57,50,57,50,55,52,53,54,57,50,49,50,48,53,51,49,50,56,57,54,51,49,49,55,50,49,48,49,55,53,55,56])]).bind λ gA=>(R3 [.s (dI (bO tP) (cI tP)),.s (dI (xA gA) (Eh gA))]).bind λ gY=>(R3 [.s (dI (bO qE) (cI qE)),.s (dI (bO gM) (cI gM))]).bind λ oG=>(R5 [.s (dI (bO oG) (cI oG))]).bind λ vJ=>bif fW vJ then (R2 [.s (dI [] 0),.s (dI (bO t) (cI t))]).bind λ t=>(R2 [.s (dI [1] 1),.s (dI (bC t) (bW t))]).bind λ t=>(R3 [.s (dI (bO gY) (cI gY)),.s (dI (bC t) (bW t))]).bind λ t=>(R8 [.s (dI (bO t) (cI t))]).bind λ t=>(R9 [.s (dI (vL t) (wY t))]).bind λ t=>some (AV.agg (.ints .u8 (zE t)) 32) else (R2 [.s (dI [1] 1),.s (dI (bO t) (cI t))]).bind λ t=>(R3 [.s (dI (bO gY) (cI gY)),.s (dI (bC t) (bW t))]).bind λ t=>(R8 [.s (dI (bO t) (cI t))]).bind λ t=>(R9 [.s (dI (vL t) (wY t))]).bind λ t=>some (AV.agg (.ints .u8 (zE t)) 32) else (R3 [.s (dI (aG t) (aM t)),.s (dI (bO gM) (cI gM))]).bind λ gO=>(R5 [.s (dI (bO gO) (cI gO))]).bind λ qE=>bif fW qE then (R2 [.s (dI [] 0),.s (dI (cB t) (cE t))]).bind λ t=>(R2 [.s (dI [1] 1),.s (dI (bC t) (bW t))]).bind λ t=>(R3 [.s (dI (bO tQ) (cI tQ)),.s (dI (bC t) (bW t))]).bind λ t=>(R8 [.s (dI (bO t) (cI t))]).bind λ t=>(R9 [.s (dI (vL t) (wY t))]).bind λ t=>some (AV.agg (.ints .u8 (zE t)) 32) else (R2 [.s (dI [1] 1),.s (dI (cB t) (cE t))]).bind λ t=>(R3 [.s (dI (bO tQ) (cI tQ)),.s (dI (bC t) (bW t))]).bind λ t=>(R8 [.s (dI (bO t) (cI t))]).bind λ t=>(R9 [.s (dI (vL t) (wY t))]).bind λ t=>some (AV.agg (.ints .u8 (zE t)) 32):=by kernel_rfl
end
set_option maxRecDepth 4000
abbrev aQu:Cg:=aNU 
theorem aIb:CfOk prog aQu.c:=gk <| aK
theorem Eo:CallOk prog 72 aQj:=by
 refine i7 aIb Tryz.func72 ?_;intro args t ht;obtain ⟨p,rfl,hp,rfl⟩:=Ai (F:=λ p=>p) ht;exact aQk ..
theorem C6 {p:Pt} (h:qF p):Ym [eP p]=some p:=Js (λ p=>p) h
abbrev aQv:Cg:=aNV (Pt) IX (λ t=>[↑t.x.a,↑t.x.b,↑t.x.c,↑t.x.d,↑t.x.e,↑t.y.a,↑t.y.b,↑t.y.c,↑t.y.d,↑t.y.e,↑t.z.a,↑t.z.b,↑t.z.c,↑t.z.d,↑t.z.e,↑t.t.a,↑t.t.b,↑t.t.c,↑t.t.d,↑t.t.e]) (Pt) Ym (λ t=>[↑t.x.a,↑t.x.b,↑t.x.c,↑t.x.d,↑t.x.e,↑t.y.a,↑t.y.b,↑t.y.c,↑t.y.d,↑t.y.e,↑t.z.a,↑t.z.b,↑t.z.c,↑t.z.d,↑t.z.e,↑t.t.a,↑t.t.b,↑t.t.c,↑t.t.d,↑t.t.e])
theorem aIc:CfOk prog aQv.c:=gk <| aA Oz <| aA Eo <| aK
theorem MC:CallOk prog 64 IW:=by
 refine i7 aIc Tryz.func64 ?_;intro args t ht;unfold IW Gl at ht;simp only at ht;split at ht
 ·have ht:=dG ht;subst ht;have o:=Aj;have e:=C6 EO;generalize gZ=Bp at *;refine (aQl ..).trans ?_;refine aI o ?_;refine aI e ?_;rfl
 ·cases ht
abbrev aQw:Cg:=aNW (Fe) CG (λ t=>↑t.a) (λ t=>↑t.b) (λ t=>↑t.c) (λ t=>↑t.d) (λ t=>↑t.e)
theorem aId:CfOk prog aQw.c:=gk <| aA HH <| aK
theorem VT:CallOk prog 83 JB:=by
 refine i7 aId Tryz.func83 ?_;intro args t ht;unfold JB at ht;simp only at ht;split at ht
 ·rename_i s;obtain ⟨h1,h2⟩:=cC ht;subst h2;refine (aQm ..).trans ?_;refine aI (nG (jN h1)) ?_;rfl
 ·cases ht
abbrev aQx:Cg:=aNX (Pt) V1 (λ t=>[↑t.x.a,↑t.x.b,↑t.x.c,↑t.x.d,↑t.x.e,↑t.y.a,↑t.y.b,↑t.y.c,↑t.y.d,↑t.y.e,↑t.z.a,↑t.z.b,↑t.z.c,↑t.z.d,↑t.z.e,↑t.t.a,↑t.t.b,↑t.t.c,↑t.t.d,↑t.t.e]) (Pt) Ym (λ t=>[↑t.x.a,↑t.x.b,↑t.x.c,↑t.x.d,↑t.x.e,↑t.y.a,↑t.y.b,↑t.y.c,↑t.y.d,↑t.y.e,↑t.z.a,↑t.z.b,↑t.z.c,↑t.z.d,↑t.z.e,↑t.t.a,↑t.t.b,↑t.t.c,↑t.t.d,↑t.t.e])
theorem aIe:CfOk prog aQx.c:=gk <| aA aNd <| aA Eo <| aK
theorem aIf:CallOk prog 206 V0:=by
 refine i7 aIe Tryz.func206 ?_;intro args t ht;obtain ⟨p,q,rfl,hp,hq,rfl⟩:=Jr (F:=λ p q=>CU p q E4) ht;refine (aQn ..).trans ?_;refine aI (SE hp hq) ?_;refine aI (C6 (Oy hp hq Lr)) ?_;rfl
abbrev aQy:Cg:=aNY (Pt) MX (λ t=>[↑t.x.a,↑t.x.b,↑t.x.c,↑t.x.d,↑t.x.e,↑t.y.a,↑t.y.b,↑t.y.c,↑t.y.d,↑t.y.e,↑t.z.a,↑t.z.b,↑t.z.c,↑t.z.d,↑t.z.e,↑t.t.a,↑t.t.b,↑t.t.c,↑t.t.d,↑t.t.e]) (Pt) Ym (λ t=>[↑t.x.a,↑t.x.b,↑t.x.c,↑t.x.d,↑t.x.e,↑t.y.a,↑t.y.b,↑t.y.c,↑t.y.d,↑t.y.e,↑t.z.a,↑t.z.b,↑t.z.c,↑t.z.d,↑t.z.e,↑t.t.a,↑t.t.b,↑t.t.c,↑t.t.d,↑t.t.e])
theorem aIg:CfOk prog aQy.c:=gk <| aA aB5 <| aA Eo <| aK
theorem Kl:CallOk prog 36 ID:=by
 refine i7 aIg Tryz.func36 ?_;intro args t ht;obtain ⟨p,a,rfl,hp,ha,rfl⟩:=P4 (F:=λ p a=>kK p (fQ (val a) 253)) ht;refine (aQo ..).trans ?_;refine aI (Ks hp ha) ?_;refine aI (C6 (Ey hp _)) ?_;rfl
abbrev aQz:Cg:=aNZ (Pt) TF (λ t=>[↑t.x.a,↑t.x.b,↑t.x.c,↑t.x.d,↑t.x.e]) (λ t=>[↑t.y.a,↑t.y.b,↑t.y.c,↑t.y.d,↑t.y.e]) (λ t=>[↑t.z.a,↑t.z.b,↑t.z.c,↑t.z.d,↑t.z.e]) (λ t=>[↑t.t.a,↑t.t.b,↑t.t.c,↑t.t.d,↑t.t.e]) (Fe) iC (λ t=>↑t.a) (λ t=>↑t.b) (λ t=>↑t.c) (λ t=>↑t.d) (λ t=>↑t.e) (Bool) aKW (λ t=>t)
theorem aIh:CfOk prog aQz.c:=gk <| aA QH <| aA nN <| aA UT <| aK
theorem aIi:CallOk prog 121 aNO:=by
 refine i7 aIh Tryz.func121 ?_;intro args t ht;obtain ⟨p,q,rfl,hp,hq,rfl⟩:=Jr (F:=vM) ht;refine (aQp ..).trans ?_;refine aI (E1 hp) ?_;refine aI (E1 hq) ?_;refine aI (bF hp.1 hq.2.1) ?_;refine aI (bF hp.2.1 hq.1) ?_;refine aI (Dt (aL hp.1 hq.2.1) (aL hp.2.1 hq.1)) ?_;show _=some (AV.bool (vM p q));unfold vM;cases kO (aO p.x q.y) (aO p.y q.x)
 ·refine aI (bF hp.2.1 hq.2.1) ?_;refine aI (bF hp.1 hq.1) ?_;refine aI (Dt (aL hp.2.1 hq.2.1) (aL hp.1 hq.1)) ?_;rfl
 ·rfl
theorem aBe {p q:Pt} (h:qF p) (k:qF q):aNP [eP p,eP q]=some (vM p q):=aHi vM h k
abbrev aQA:Cg:=aN0 (Pt) IX (λ t=>[↑t.x.a,↑t.x.b,↑t.x.c,↑t.x.d,↑t.x.e,↑t.y.a,↑t.y.b,↑t.y.c,↑t.y.d,↑t.y.e,↑t.z.a,↑t.z.b,↑t.z.c,↑t.z.d,↑t.z.e,↑t.t.a,↑t.t.b,↑t.t.c,↑t.t.d,↑t.t.e]) (Bool) aNP (λ t=>t)
theorem aIj:CfOk prog aQA.c:=gk <| aA MC <| aA aIi <| aK
theorem Pa:CallOk prog 71 Sq:=by
 refine i7 aIj Tryz.func71 ?_;intro args t ht;obtain ⟨p,rfl,hp,rfl⟩:=Ai (F:=λ p=>vM p gZ) ht;have o:=Aj;have e:=aBe hp EO;generalize gZ=Np at *;refine (aQq ..).trans ?_;refine aI o ?_;refine aI e ?_;rfl
theorem Yn {p:Pt} (h:qF p):aBb [eP p]=some (vM p gZ):=Js (λ p=>vM p gZ) h
theorem aQB:fe ((z6 (([53,52,52,54,57,51,48,55,48,48,56,57,48,57,51,49,54,57,50,48,57,57,53,56,49,51,56,54,56,55,52,53,49,52,49,54,48,53]:List UInt8).append [51,57,51,53,57,55,50,57,50,57,50,55,52,53,54,57,50,49,50,48,53,51,49,50,56,57,54,51,49,49,55,50,49,48,49,55,53,55,56])).1%aJ)=fe Yl:=by kernel_rfl
theorem aQC:CG [AV.str (([53,52,52,54,57,51,48,55,48,48,56,57,48,57,51,49,54,57,50,48,57,57,53,56,49,51,56,54,56,55,52,53,49,52,49,54,48,53]:List UInt8).append [51,57,51,53,57,55,50,57,50,57,50,55,52,53,54,57,50,49,50,48,53,51,49,50,56,57,54,51,49,49,55,50,49,48,49,55,53,55,56])]=some (fe Yl):=by
 rw [nG (by decide +kernel),aQB]
theorem aN4 {x:Fe} (hx:cN x):iC [eF x,AV.agg (.ints .u64 [1718705420411056,234908883556509,2233514472574048,2117202627021982,765476049583133]) 5]=some (aO x iF):=by
 rw [<-aDQ]; exact bF hx wD
theorem Gu {u v:Fe} (hu:cN u) (hv:cN v):cN (mI u v).1:=by
 have hR:=Ms hu hv;unfold mI;have hQ:cN (aO (dO u v) iF):=aL hR wD;generalize (kO (aO v (aO (dO u v) (dO u v))) (cJ f0 u) || kO (aO v (aO (dO u v) (dO u v))) (aO (cJ f0 u) iF))=b;show cN (wJ _);unfold wJ;have hc:cN (cond b (aO (dO u v) iF) (dO u v)):=by
  cases b
  ·exact hR
  ·exact hQ
 cases oX (cond b (aO (dO u v) iF) (dO u v))
 ·exact hc
 ·exact cL tC
theorem MD {z:Fe} (hz:cN z):cN (wJ z):=by
 unfold wJ;cases oX z
 ·exact hz
 ·exact cL tC
section
variable {p:Pt} (hp:qF p)
include hp
theorem Hs:cN (u1E p):=aL (cD hp.2.2.1 hp.2.1) (cL hp.2.2.1)
theorem Ep:cN (VP p):=aL hp.1 hp.2.1
theorem C7:cN (C5 p):=Gu (cV 1) (aL (Hs hp) (aL (Ep hp) (Ep hp)))
theorem aQD:cN (ziE p):=aL (aL (aL (C7 hp) (Hs hp)) (aL (C7 hp) (Ep hp))) hp.2.2.2
theorem aN5:cN (xE p):=by
 unfold xE;cases Em p
 ·exact hp.1
 ·exact aL hp.2.1 wD
theorem aBf:cN (yE p):=by
 unfold yE;cases Em p
 ·exact hp.2.1
 ·exact aL hp.1 wD
theorem ME:cN (MA p):=by
 unfold MA;cases Em p
 ·exact aL (C7 hp) (Ep hp)
 ·exact aL (aL (C7 hp) (Hs hp)) (cV Yl)
theorem aBg:cN (y2E p):=by
 unfold y2E;cases oX (aO (xE p) (ziE p))
 ·exact aBf hp
 ·exact cL tC
end
theorem aQE {p:Pt} (hp:qF p):wI [eF p.z,eF (y2E p)]=some (cJ p.z (y2E p)) /\ iC [eF (MA p),eF (cJ p.z (y2E p))]=some (aO (MA p) (cJ p.z (y2E p))) /\ GJ [eF (aO (MA p) (cJ p.z (y2E p)))]=some (i3 p) /\ A7 [eF (i3 p)]=some (lo 32 (fv (i3 p)%aJ)):=by
 have h1:cN (cJ p.z (y2E p)):=cL hp.2.2.1;have h2:=aL (ME hp) h1;exact ⟨gP hp.2.2.1 (aBg hp),bF (ME hp) h1,AL h2,Iu (MD h2)⟩
abbrev aQF:Cg:=aN1 (Pt) TF (λ t=>[↑t.x.a,↑t.x.b,↑t.x.c,↑t.x.d,↑t.x.e]) (λ t=>[↑t.y.a,↑t.y.b,↑t.y.c,↑t.y.d,↑t.y.e]) (λ t=>[↑t.z.a,↑t.z.b,↑t.z.c,↑t.z.d,↑t.z.e]) (λ t=>[↑t.t.a,↑t.t.b,↑t.t.c,↑t.t.d,↑t.t.e]) (Fe) uG (λ t=>↑t.a) (λ t=>↑t.b) (λ t=>↑t.c) (λ t=>↑t.d) (λ t=>↑t.e) (Fe) wI (λ t=>↑t.a) (λ t=>↑t.b) (λ t=>↑t.c) (λ t=>↑t.d) (λ t=>↑t.e) (Fe) iC (λ t=>↑t.a) (λ t=>↑t.b) (λ t=>↑t.c) (λ t=>↑t.d) (λ t=>↑t.e) (Fe) Nx (λ t=>↑t.a) (λ t=>↑t.b) (λ t=>↑t.c) (λ t=>↑t.d) (λ t=>↑t.e) (Fe) Nz (λ t=>↑t.a) (λ t=>↑t.b) (λ t=>↑t.c) (λ t=>↑t.d) (λ t=>↑t.e) (Fe × Bool) LS (λ t=>↑t.fst.a) (λ t=>↑t.fst.b) (λ t=>↑t.fst.c) (λ t=>↑t.fst.d) (λ t=>↑t.fst.e) (λ t=>t.snd) (Bool) aAa (λ t=>t) (Unit) rFI (Fe) CG (λ t=>↑t.a) (λ t=>↑t.b) (λ t=>↑t.c) (λ t=>↑t.d) (λ t=>↑t.e) (Fe) JA (λ t=>↑t.a) (λ t=>↑t.b) (λ t=>↑t.c) (λ t=>↑t.d) (λ t=>↑t.e) (Fe) GJ (λ t=>↑t.a) (λ t=>↑t.b) (λ t=>↑t.c) (λ t=>↑t.d) (λ t=>↑t.e) (List Int) A7 (λ t=>t)
theorem aIk:CfOk prog aQF.c:=gk <| aA QH <| aA uI <| aA xU <| aA nN <| aA Ce <| aA Ch <| aA HG <| aA US <| aA aDR <| aA VT <| aA A8 <| aA HO <| aA LI <| aK
theorem Km:CallOk prog 37 MB:=by
 refine i7 aIk Tryz.func37 ?_;intro args t ht;obtain ⟨p,rfl,hp,rfl⟩:=Ai (F:=λ p=>lo 32 (fv (i3 p)%aJ)) ht;obtain ⟨h1,h2,h3,h4⟩:=hp;have hp:qF p:=⟨h1,h2,h3,h4⟩;have k1:=Hs hp;have k2:=Ep hp;have kI:=C7 hp;have kz:=aQD hp;have e3:iC [eF (gC p.z p.y),eF (cJ p.z p.y)]=some (u1E p):=bF (cD h3 h2) (cL h3);have e4:iC [eF p.x,eF p.y]=some (VP p):=bF h1 h2;have e7:=bF k1 (aL k2 k2);have e8:=It (cV 1) (aL k1 (aL k2 k2));have hI:(mI (fe 1) (aO (u1E p) (aO (VP p) (VP p)))).1=C5 p:=rfl;have e9:=bF kI k1;have e10:=bF kI k2;have e11:=bF (aL kI k1) (aL kI k2);have e12:iC [eF (aO (aO (C5 p) (u1E p)) (aO (C5 p) (VP p))),eF p.t]=some (ziE p):=bF (aL (aL kI k1) (aL kI k2)) h4;have e13:=bF h4 kz;have e14:aAa [eF (aO p.t (ziE p))]=some (Em p):=Ds (aL h4 kz);have e15:=bF (aN5 hp) kz;have e16:=Ds (aL (aN5 hp) kz);have e17:=tD (aBf hp);obtain ⟨b1,b2,b3,b4⟩:=aQE hp;have hx:xE p=cond (Em p) (aO p.y iF) p.x:=rfl;have hy:yE p=cond (Em p) (aO p.x iF) p.y:=rfl;have hd:MA p=cond (Em p) (aO (aO (C5 p) (u1E p)) (fe Yl)) (aO (C5 p) (VP p)):=rfl;have hy2:y2E p=cond (oX (aO (xE p) (ziE p))) (cJ f0 (yE p)) (yE p):=rfl;have m1:=aN4 h2;have m2:=aN4 h1;have m3:=bF (aL kI k1) (cV Yl);refine (aQr ..).trans ?_;refine aI (E1 hp) ?_;refine aI (fN h3 h2) ?_;refine aI (gP h3 h2) ?_;refine aI e3 ?_;refine aI e4 ?_;refine aI (xT (n:=1) (by decide)) ?_;refine aI (j4 k2) ?_;refine aI e7 ?_;refine aI e8 ?_;generalize mI (fe 1) (aO (u1E p) (aO (VP p) (VP p)))=R at *;dsimp only;rw [hI];refine aI e9 ?_;refine aI e10 ?_;refine aI e11 ?_;refine aI e12 ?_;refine aI e13 ?_;refine aI e14 ?_;generalize MA p=de at *;generalize xE p=xx at *;generalize yE p=yy at *;generalize y2E p=y2 at *;generalize i3 p=by' at *
 show _=some (lS (lo 32 (fv by'%aJ)));generalize lo 32 (fv by'%aJ)=out at *;generalize hr:Em p=rot at *;cases rot
 ·rw [aD] at hx hy hd;rw [aD];subst hx hy hd;refine aI e15 ?_;refine aI e16 ?_;cases hn:oX (aO p.x (ziE p))
  ·rw [hn,aD] at hy2;subst hy2;rw [aD];refine aI b1 ?_;refine aI b2 ?_;refine aI b3 ?_;refine aI b4 ?_;rfl
  ·rw [hn,aB] at hy2;subst hy2;rw [aB];refine aI e17 ?_;refine aI b1 ?_;refine aI b2 ?_;refine aI b3 ?_;refine aI b4 ?_;rfl
 ·rw [aB] at hx hy hd;rw [aB];subst hx hy hd;refine aI (show rFI []=some () from rfl) ?_;refine aI m1 ?_;refine aI m2 ?_;refine aI aQC ?_;refine aI m3 ?_;refine aI e15 ?_;refine aI e16 ?_;cases hn:oX (aO (aO p.y iF) (ziE p))
  ·rw [hn,aD] at hy2;subst hy2;rw [aD];refine aI b1 ?_;refine aI b2 ?_;refine aI b3 ?_;refine aI b4 ?_;rfl
  ·rw [hn,aB] at hy2;subst hy2;rw [aB];refine aI e17 ?_;refine aI b1 ?_;refine aI b2 ?_;refine aI b3 ?_;refine aI b4 ?_;rfl
theorem Sr {p:Pt} (h:qF p):VQ [eP p]=some (lo 32 (fv (i3 p)%aJ)):=Js (λ p=>lo 32 (fv (i3 p)%aJ)) h
set_option maxRecDepth 4000
theorem vN {s:Str} {n:Nat} (h1:CG [.str s]=some (fe ((z6 s).1%aJ))) (h:Nat.beq ((z6 s).1%aJ) n=true):CG [.str s]=some (fe n):=by
 rw [h1,aS h]
theorem Yo {s:Str} {n:Nat} (h1:decide (s.length <= 65536)=true) (h:Nat.beq (cond (wA s) (tS 0 s) 0) n=true):XK [.str s]=some n:=by
 show cond (decide (s.length <= 65536)) (some (cond (wA s) (tS 0 s) 0)) none=_;rw [h1,aS h]; rfl
theorem aXe {x:Fe} (hx:cN x):iC [AV.agg (.ints .u64 [1718705420411056,234908883556509,2233514472574048,2117202627021982,765476049583133]) 5,eF x]=some (aO iF x):=by
 rw [<-aDQ]; exact bF wD hx
theorem aXf {x:Fe} (hx:cN x):iC [eF x,AV.agg (.ints .u64 [929955233495203,466365720129213,1662059464998953,2033849074728123,1442794654840575]) 5]=some (aO x dF):=by
 rw [<-YQ]; exact bF hx uO
theorem aXg {x:Fe} (hx:cN x):uG [eF x,AV.agg (.ints .u64 [929955233495203,466365720129213,1662059464998953,2033849074728123,1442794654840575]) 5]=some (gC x dF):=by
 rw [<-YQ]; exact fN hx uO
theorem C8 {b:Bool} {x y:Fe} (hx:cN x) (hy:cN y):cN (cond b x y):=by
 cases b
 ·exact hy
 ·exact hx
theorem VU (a:List Int):cN (rU a):=cV _
abbrev aQG:Cg:=aN2 (Fe) Nx (λ t=>↑t.a) (λ t=>↑t.b) (λ t=>↑t.c) (λ t=>↑t.d) (λ t=>↑t.e) (PUnit) rCD (Fe) N1 (λ t=>↑t.a) (λ t=>↑t.b) (λ t=>↑t.c) (λ t=>↑t.d) (λ t=>↑t.e) (Unit) rFI (Fe) Nz (λ t=>↑t.a) (λ t=>↑t.b) (λ t=>↑t.c) (λ t=>↑t.d) (λ t=>↑t.e) (Fe) iC (λ t=>↑t.a) (λ t=>↑t.b) (λ t=>↑t.c) (λ t=>↑t.d) (λ t=>↑t.e) (Fe) uG (λ t=>↑t.a) (λ t=>↑t.b) (λ t=>↑t.c) (λ t=>↑t.d) (λ t=>↑t.e) (Fe) CG (λ t=>↑t.a) (λ t=>↑t.b) (λ t=>↑t.c) (λ t=>↑t.d) (λ t=>↑t.e) (Fe) JA (λ t=>↑t.a) (λ t=>↑t.b) (λ t=>↑t.c) (λ t=>↑t.d) (λ t=>↑t.e) (Fe) wI (λ t=>↑t.a) (λ t=>↑t.b) (λ t=>↑t.c) (λ t=>↑t.d) (λ t=>↑t.e) (Fe × Bool) LS (λ t=>↑t.fst.a) (λ t=>↑t.fst.b) (λ t=>↑t.fst.c) (λ t=>↑t.fst.d) (λ t=>↑t.fst.e) (λ t=>t.snd) (Fe) GJ (λ t=>↑t.a) (λ t=>↑t.b) (λ t=>↑t.c) (λ t=>↑t.d) (λ t=>↑t.e) (Pt) aJa (λ t=>[↑t.x.a,↑t.x.b,↑t.x.c,↑t.x.d,↑t.x.e,↑t.y.a,↑t.y.b,↑t.y.c,↑t.y.d,↑t.y.e,↑t.z.a,↑t.z.b,↑t.z.c,↑t.z.d,↑t.z.e,↑t.t.a,↑t.t.b,↑t.t.c,↑t.t.d,↑t.t.e]) (Pt) Ym (λ t=>[↑t.x.a,↑t.x.b,↑t.x.c,↑t.x.d,↑t.x.e,↑t.y.a,↑t.y.b,↑t.y.c,↑t.y.d,↑t.y.e,↑t.z.a,↑t.z.b,↑t.z.c,↑t.z.d,↑t.z.e,↑t.t.a,↑t.t.b,↑t.t.c,↑t.t.d,↑t.t.e])
theorem aIl:CfOk prog aQG.c:=gk <| aA Ce <| aA SC <| aA Qh <| aA aDR <| aA Ch <| aA nN <| aA uI <| aA VT <| aA A8 <| aA xU <| aA HG <| aA HO <| aA aCy <| aA Eo <| aK
theorem aBh:CallOk prog 205 aBc:=by
 refine i7 aIl Tryz.func205 ?_;intro args t ht;obtain ⟨a,rfl,ha,rfl⟩:=nI (F:=λ a=>nB (rU a)) ht;have o1:cN (fe 1):=cV 1;have e2:=LH ha;have tt:=VU a;generalize rU a=t at *;have hr:cN (rH t):=aL wD (aL tt tt);have e5:iC [AV.agg (.ints .u64 [1718705420411056,234908883556509,2233514472574048,2117202627021982,765476049583133]) 5,eF (aO t t)]=some (rH t):=aXe (aL tt tt);have hv:cN (vH t):=aL (cL (cL tC)) (cD hr uO);have hu:cN (uH t):=aL (cD hr o1) (cV _);have e8:iC [eF (gC (rH t) (fe 1)),eF (fe cMN)]=some (uH t):=bF (cD hr o1) (cV _);have e13:iC [eF (cJ (cJ f0 (fe 1)) (aO (rH t) dF)),eF (gC (rH t) dF)]=some (vH t):=bF (cL (cL tC)) (cD hr uO);have e14:=It hu hv;have hs0:cN (mI (uH t) (vH t)).1:=Gu hu hv;have hs:cN (sH t):=C8 hs0 (cL tC);have hc:cN (cH t):=C8 (cL tC) hr;have ds:sH t=cond (sqH t) (mI (uH t) (vH t)).1 (cJ f0 (wJ (aO (mI (uH t) (vH t)).1 t))):=rfl;have dc:cH t=cond (sqH t) (cJ f0 (fe 1)) (rH t):=rfl;have db:sqH t=(mI (uH t) (vH t)).2:=rfl;have hn1:cN (cJ (rH t) (fe 1)):=cL hr;have f19:=gP hr o1;have f20:=bF hc hn1;have f22:=bF (aL hc hn1) (cV cDN);have f23:wI [eF (aO (aO (cH t) (cJ (rH t) (fe 1))) (fe cDN)),eF (vH t)]=some (nH t):=gP (aL (aL hc hn1) (cV cDN)) hv;have hn:cN (nH t):=cL (aL (aL hc hn1) (cV cDN));have f24:=j4 hs;have f25:=fN hs hs;have f26:iC [eF (gC (sH t) (sH t)),eF (vH t)]=some (w0H t):=bF (cD hs hs) hv;have f28:iC [eF (nH t),eF (fe cAN)]=some (w1H t):=bF hn (cV cAN);have f29:wI [eF (fe 1),eF (aO (sH t) (sH t))]=some (w2H t):=gP o1 (aL hs hs);have f30:uG [eF (fe 1),eF (aO (sH t) (sH t))]=some (w3H t):=fN o1 (aL hs hs);have k0:cN (w0H t):=aL (cD hs hs) hv;have k1:cN (w1H t):=aL hn (cV cAN);have k2:cN (w2H t):=cL o1;have k3:cN (w3H t):=cD o1 (aL hs hs);have f31:=bF k0 k3;have f32:=bF k2 k1;have f33:=bF k1 k3;have f34:=bF k0 k2;have f35:aJa [eF (aO (w0H t) (w3H t)),eF (aO (w2H t) (w1H t)),eF (aO (w1H t) (w3H t)),eF (aO (w0H t) (w2H t))]=some (nB t):=Vu (aL k0 k3) (aL k2 k1) (aL k1 k3) (aL k0 k2);have f36:=C6 (p:=nB t) ⟨aL k0 k3,aL k2 k1,aL k1 k3,aL k0 k2⟩;refine (aQs ..).trans ?_;refine aI (xT (n:=1) (by decide)) ?_;refine aI (show rCD []=some () from rfl) ?_;refine aI e2 ?_;refine aI (show rFI []=some () from rfl) ?_;refine aI (j4 tt) ?_;refine aI e5 ?_;refine aI (fN hr o1) ?_;refine aI (vN (n:=cMN) (nG (by decide +kernel)) (by decide +kernel)) ?_;refine aI e8 ?_;refine aI (tD o1) ?_;refine aI (aXf hr) ?_;refine aI (gP (cL tC) (aL hr uO)) ?_;refine aI (aXg hr) ?_;refine aI e13 ?_;refine aI e14 ?_;generalize mI (uH t) (vH t)=R at *;refine aI (tD o1) ?_;dsimp only;rw [<-db];show _=some (eP (nB t));generalize nB t=H at *;generalize nH t=n at *;generalize w0H t=w0 at *;generalize w1H t=w1 at *;generalize w2H t=w2 at *;generalize w3H t=w3 at *;generalize vH t=v at *;generalize sH t=s at *;generalize cH t=c at *;generalize rH t=r at *;generalize sqH t=sq at *;cases sq
 ·rw [aD] at ds dc;rw [lL,aB];have e16:=bF hs0 tt;have e17:=AL (aL hs0 tt);have e18:=tD (MD (aL hs0 tt));subst ds dc;refine aI e16 ?_;refine aI e17 ?_;refine aI e18 ?_;refine aI f19 ?_;refine aI f20 ?_;refine aI (vN (n:=cDN) (nG (by decide +kernel)) (by decide +kernel)) ?_;refine aI f22 ?_;refine aI f23 ?_;refine aI f24 ?_;refine aI f25 ?_;refine aI f26 ?_;refine aI (vN (n:=cAN) (nG (by decide +kernel)) (by decide +kernel)) ?_;refine aI f28 ?_;refine aI f29 ?_;refine aI f30 ?_;refine aI f31 ?_;refine aI f32 ?_;refine aI f33 ?_;refine aI f34 ?_;refine aI f35 ?_;refine aI f36 ?_;rfl
 ·rw [aB] at ds dc;rw [jW,aD];subst ds dc;refine aI f19 ?_;refine aI f20 ?_;refine aI (vN (n:=cDN) (nG (by decide +kernel)) (by decide +kernel)) ?_;refine aI f22 ?_;refine aI f23 ?_;refine aI f24 ?_;refine aI f25 ?_;refine aI f26 ?_;refine aI (vN (n:=cAN) (nG (by decide +kernel)) (by decide +kernel)) ?_;refine aI f28 ?_;refine aI f29 ?_;refine aI f30 ?_;refine aI f31 ?_;refine aI f32 ?_;refine aI f33 ?_;refine aI f34 ?_;refine aI f35 ?_;refine aI f36 ?_;rfl
theorem Yp {a:List Int} (h:fR a=true):aBd [lS a]=some (nB (rU a)):=xO (λ a=>nB (rU a)) h
end
end Go.Eng
