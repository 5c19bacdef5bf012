import Derived.Test.YtmicbaijcbkmjaaGreatZF8
import Derived.Test.YtmicbaijcbkmjaaGreatZG2
namespace Go.Eng
open Go.IntKind (u64 i64 u8)
noncomputable section
open Go Go.Proofs
set_option linter.all false
structure RP where
 x:Nat
 y:Nat
 z:Nat
def Ei (p:RP):AV:=.c (.mix [.dat (.ints .i64 (nb p.x)) (nb p.x).length 1,.dat (.ints .i64 (nb p.y)) (nb p.y).length 1,.dat (.ints .i64 (nb p.z)) (nb p.z).length 1])
def kZ (a:List Int) (n:Nat):Bool:=K3 a n && bP (vB a)
def QB {T:Type} (F:RP->T):FA T
 | [.c (.mix [.dat (.ints .i64 a) n 1,.dat (.ints .i64 b) m 1,.dat (.ints .i64 c) k 1])]=>cond (kZ a n && (kZ b m && kZ c k)) (some (F ⟨vB a,vB b,vB c⟩)) none
 | _=>none
def Mc {T:Type} (F:RP->RP->Nat->T):FA T
 | [.c (.mix [.dat (.ints .i64 a) n 1,.dat (.ints .i64 b) m 1,.dat (.ints .i64 c) k 1]),.c (.mix [.dat (.ints .i64 a') n' 1,.dat (.ints .i64 b') m' 1,.dat (.ints .i64 c') k' 1]),.c (.s (.dat (.ints .i64 d) j 1))]=>
  cond (kZ a n && (kZ b m && kZ c k) && (kZ a' n' && (kZ b' m' && kZ c' k')) && kZ d j) (some (F ⟨vB a,vB b,vB c⟩ ⟨vB a',vB b',vB c'⟩ (vB d))) none
 | _=>none
def IK {T:Type} (F:RP->Nat->Nat->T) (C:Nat->Bool):FA T
 | [.c (.mix [.dat (.ints .i64 a) n 1,.dat (.ints .i64 b) m 1,.dat (.ints .i64 c) k 1]),.c (.s (.dat (.ints .i64 e) i 1)),.c (.s (.dat (.ints .i64 d) j 1))]=>
  cond (kZ a n && (kZ b m && kZ c k) && (K3 e i && C (vB e)) && kZ d j) (some (F ⟨vB a,vB b,vB c⟩ (vB e) (vB d))) none
 | _=>none
def KN (p q:RP) (d:Nat):RP :=
 ⟨p.z * q.z % aJ * ((p.z * q.z % aJ * (p.z * q.z % aJ) % aJ + aJ - d * (p.x * q.x % aJ * (p.y * q.y % aJ) % aJ) % aJ) % aJ) % aJ * ((p.x * q.y % aJ + p.y * q.x % aJ) % aJ) % aJ,
  p.z * q.z % aJ * ((p.z * q.z % aJ * (p.z * q.z % aJ) % aJ + d * (p.x * q.x % aJ * (p.y * q.y % aJ) % aJ) % aJ) % aJ) % aJ * ((p.y * q.y % aJ + p.x * q.x % aJ) % aJ) % aJ,
  (p.z * q.z % aJ * (p.z * q.z % aJ) % aJ + aJ - d * (p.x * q.x % aJ * (p.y * q.y % aJ) % aJ) % aJ) % aJ * ((p.z * q.z % aJ * (p.z * q.z % aJ) % aJ + d * (p.x * q.x % aJ * (p.y * q.y % aJ) % aJ) % aJ) % aJ) % aJ⟩
def aCq:Summ:={ T:=RP,run:=Mc KN,enc:=Ei }
def Md:FA RP:=aCq.run
def pZ:RP:=⟨0,1,1⟩
def aCr:Summ:={ T:=RP,run:=Gl pZ,enc:=Ei }
def zV:FA RP:=aCr.run
def F9 (p:RP) (d:Nat) (c:RP) (b:Bool):RP:=cond b (KN (KN c c d) p d) (KN c c d)
def xJ (p:RP) (n d:Nat):RP:=(fQ n (bl n)).foldl (F9 p d) pZ
def Vp:Summ:={ T:=RP,run:=IK xJ λ n=>Nat.blt n lJ,enc:=Ei }
def Vq:FA RP:=Vp.run
def Bf (p:RP):Nat × Nat:=(p.x*(p.z ^ (aJ - 2)%aJ)%aJ,p.y*(p.z ^ (aJ - 2)%aJ)%aJ)
def eNN (t:Nat × Nat):AV:=.tup [.s (.dat (.ints .i64 (nb t.1)) (nb t.1).length 1),.s (.dat (.ints .i64 (nb t.2)) (nb t.2).length 1)]
def Vr:Summ:={ T:=Nat × Nat,run:=QB Bf,enc:=eNN }
def Vs:FA (Nat × Nat):=Vr.run
def ePF (p:Pt):AV:=.tup [.s (.pl (.agg (.ints .u64 [(p.x.a:Int),p.x.b,p.x.c,p.x.d,p.x.e]) 5)),.s (.pl (.agg (.ints .u64 [(p.y.a:Int),p.y.b,p.y.c,p.y.d,p.y.e]) 5)),.s (.pl (.agg (.ints .u64 [(p.z.a:Int),p.z.b,p.z.c,p.z.d,p.z.e]) 5)),.s (.pl (.agg (.ints .u64 [(p.t.a:Int),p.t.b,p.t.c,p.t.d,p.t.e]) 5))]
def aCs:Summ:={ T:=Pt,run:=DO λ p=>p,enc:=ePF }
def TF:FA Pt:=aCs.run
def aXK:Summ:={ T:=Pt,run:=K0 λ x y z t=>⟨x,y,z,t⟩,enc:=eP }
def aJa:FA Pt:=aXK.run
def aOo:Cg:=⟨⟨dE [],[],dR⟩,[]⟩
theorem aR2 (fu:Nat) (a b c d e f g h i j k l m n o p q r s t:Int):bB prog Tryz.f74 aOo fu [aU [a,b,c,d,e,f,g,h,i,j,k,l,m,n,o,p,q,r,s,t] 20]=some (AV.tup [.s (.pl (.agg (.ints .u64 (List.take 5 (List.drop 0 [a,b,c,d,e,f,g,h,i,j,k,l,m,n,o,p,q,r,s,t]))) 5)),.s (.pl (.agg (.ints .u64 (List.take 5 (List.drop 5 [a,b,c,d,e,f,g,h,i,j,k,l,m,n,o,p,q,r,s,t]))) 5)),.s (.pl (.agg (.ints .u64 (List.take 5 (List.drop 10 [a,b,c,d,e,f,g,h,i,j,k,l,m,n,o,p,q,r,s,t]))) 5)),.s (.pl (.agg (.ints .u64 (List.take 5 (List.drop 15 [a,b,c,d,e,f,g,h,i,j,k,l,m,n,o,p,q,r,s,t]))) 5))]):=by kernel_rfl
def aOp:Cg:=⟨⟨dE [],[],dR⟩,[]⟩
theorem aR3 (fu:Nat) (a b c d e f g h i j k l m n o p q r s t:Int):bB prog Tryz.f120 aOp fu [aU [a,b,c,d,e] 5,aU [f,g,h,i,j] 5,aU [k,l,m,n,o] 5,aU [p,q,r,s,t] 5]=some (AV.agg (.ints .u64 ([a,b,c,d,e]++([f,g,h,i,j]++([k,l,m,n,o]++[p,q,r,s,t])))) 20):=by kernel_rfl
def aOq:Cg:=⟨⟨dE [],[],dR⟩,[]⟩
theorem aR4 (fu:Nat):bB prog Tryz.f47 aOq fu []=some (AV.c (.mix [.pl (.raw (Value.slice none 0 0)),dI [1] 1,dI [1] 1])):=by kernel_rfl
section
variable (T0:Type) (R0:FA T0) (aG:T0->List Int) (aM:T0->Nat) (T1:Type) (R1:FA T1) (aN:T1->List Int) (bI:T1->Nat) (T2:Type) (R2:FA T2) (bC:T2->List Int) (bW:T2->Nat)
def aOr:Cg:=⟨⟨dE [(40,⟨R0,λ t=>AV.s (dI (aG t) (aM t))⟩),(41,⟨R1,λ t=>AV.s (dI (aN t) (bI t))⟩),(48,⟨R2,λ t=>AV.s (dI (bC t) (bW t))⟩)],[],dR⟩,[]⟩
theorem aR5 (fu:Nat) (p q:RP) (d:Nat):bB prog Tryz.f101 (aOr T0 R0 aG aM T1 R1 aN bI T2 R2 bC bW) fu [Ei p,Ei q,eN d]=(R0 [.s (dI (nb p.z) (nb p.z).length),.s (dI (nb q.z) (nb q.z).length)]).bind λ t=>(R0 [.s (dI (aG t) (aM t)),.s (dI (aG t) (aM t))]).bind λ dH=>(R0 [.s (dI (nb p.x) (nb p.x).length),.s (dI (nb q.x) (nb q.x).length)]).bind λ eU=>(R0 [.s (dI (nb p.y) (nb p.y).length),.s (dI (nb q.y) (nb q.y).length)]).bind λ gE=>(R0 [.s (dI (aG eU) (aM eU)),.s (dI (aG gE) (aM gE))]).bind λ gT=>(R0 [.s (dI (nb d) (nb d).length),.s (dI (aG gT) (aM gT))]).bind λ gJ=>(R1 [.s (dI (aG dH) (aM dH)),.s (dI (aG gJ) (aM gJ))]).bind λ kA=>(R2 [.s (dI (aG dH) (aM dH)),.s (dI (aG gJ) (aM gJ))]).bind λ vI=>(R0 [.s (dI (aG t) (aM t)),.s (dI (aN kA) (bI kA))]).bind λ tP=>(R0 [.s (dI (nb p.x) (nb p.x).length),.s (dI (nb q.y) (nb q.y).length)]).bind λ tQ=>(R0 [.s (dI (nb p.y) (nb p.y).length),.s (dI (nb q.x) (nb q.x).length)]).bind λ gX=>(R2 [.s (dI (aG tQ) (aM tQ)),.s (dI (aG gX) (aM gX))]).bind λ gM=>(R0 [.s (dI (aG tP) (aM tP)),.s (dI (bC gM) (bW gM))]).bind λ iV=>(R0 [.s (dI (aG t) (aM t)),.s (dI (bC vI) (bW vI))]).bind λ t=>(R2 [.s (dI (aG gE) (aM gE)),.s (dI (aG eU) (aM eU))]).bind λ fO=>(R0 [.s (dI (aG t) (aM t)),.s (dI (bC fO) (bW fO))]).bind λ t=>(R0 [.s (dI (aN kA) (bI kA)),.s (dI (bC vI) (bW vI))]).bind λ gO=>some (AV.c (.mix [dI (aG iV) (aM iV),dI (aG t) (aM t),dI (aG gO) (aM gO)])):=by kernel_rfl
end
section
variable (T0:Type) (R0:FA T0) (aG:T0->List Int) (aM:T0->Nat) (cB:T0->List Int) (cE:T0->Nat) (cR:T0->List Int) (Sj:T0->Nat) (T1:Type) (R1:FA T1) (aN:T1->Int) (T2:Type) (R2:FA T2) (bC:T2->List Int) (bW:T2->Nat) (dW:T2->List Int) (eT:T2->Nat) (eX:T2->List Int) (f2f:T2->Nat) (T3:Type) (R3:FA T3) (bO:T3->Int)
def QC:Cg:=⟨⟨dE [(47,⟨R0,λ t=>AV.c (.mix [dI (aG t) (aM t),dI (cB t) (cE t),dI (cR t) (Sj t)])⟩),(100,⟨R1,λ t=>AV.int .i64 (aN t)⟩),(101,⟨R2,λ t=>AV.c (.mix [dI (bC t) (bW t),dI (dW t) (eT t),dI (eX t) (f2f t)])⟩),(54,⟨R3,λ t=>AV.int .i64 (bO t)⟩)],[],dR⟩,[(4,[1,2,3,6,7,8],[6,7])]⟩
def E0 (x1:List Int) (n1:Nat) (x2:List Int) (n2:Nat) (v8:Int) (Ge:List Int) (n_0_0:Nat) (Gf:List Int) (n_0_1:Nat) (Gg:List Int) (n_0_2:Nat) (Gh:List Int) (n_2_0:Nat) (Gi:List Int) (n_2_1:Nat) (Gj:List Int) (n_2_2:Nat):St:={ tm:=[(1,.s (dI x1 n1)),(2,.s (dI x2 n2)),(3,.s (.ptr 0 0 3)),(6,.s (.ptr 1 0 3)),(7,.s (.ptr 2 0 3)),(8,.int .i64 v8)],hp:=[(0,{ ty:=63,n:=3,row:=Row.mix [dI Ge n_0_0,dI Gf n_0_1,dI Gg n_0_2] }),(1,{ ty:=63,n:=3,row:=Row.mix [.pl (.raw (Value.slice none 0 0)),.pl (.raw (Value.slice none 0 0)),.pl (.raw (Value.slice none 0 0))] }),(2,{ ty:=63,n:=3,row:=Row.mix [dI Gh n_2_0,dI Gi n_2_1,dI Gj n_2_2] })],nx:=3,sz:=30 }
def Me:Code:=cM (bN [1,1,0,1,2] (bD Tryz.f52))
def Mf (fu:Nat):=lP prog (QC T0 R0 aG aM cB cE cR Sj T1 R1 aN T2 R2 bC bW dW eT eX f2f T3 R3 bO) fu [1,1,0,1,2] (bD Tryz.f52) (fT prog Tryz.f52)
abbrev aR6 (fu:Nat) (x1:List Int) (n1:Nat) (x2:List Int) (n2:Nat) (v8:Int) (Ge:List Int) (n_0_0:Nat) (Gf:List Int) (n_0_1:Nat) (Gg:List Int) (n_0_2:Nat) (Gh:List Int) (n_2_0:Nat) (Gi:List Int) (n_2_1:Nat) (Gj:List Int) (n_2_2:Nat):=eS prog (QC T0 R0 aG aM cB cE cR Sj T1 R1 aN T2 R2 bC bW dW eT eX f2f T3 R3 bO) fu Me (Mf T0 R0 aG aM cB cE cR Sj T1 R1 aN T2 R2 bC bW dW eT eX f2f T3 R3 bO fu ) fu (some (E0 x1 n1 x2 n2 v8 Ge n_0_0 Gf n_0_1 Gg n_0_2 Gh n_2_0 Gi n_2_1 Gj n_2_2))
theorem aR7 (fu:Nat) (p:RP) (n d:Nat):bB prog Tryz.f52 (QC T0 R0 aG aM cB cE cR Sj T1 R1 aN T2 R2 bC bW dW eT eX f2f T3 R3 bO) fu [Ei p,eN n,eN d]=(R0 []).bind λ t=>(R1 [.s (dI (nb n) (nb n).length)]).bind λ dH=>aR6 T0 R0 aG aM cB cE cR Sj T1 R1 aN T2 R2 bC bW dW eT eX f2f T3 R3 bO fu (nb n) (nb n).length (nb d) (nb d).length (i64.wrap (aN dH - 1)) (nb p.x) (nb p.x).length (nb p.y) (nb p.y).length (nb p.z) (nb p.z).length (aG t) (aM t) (cB t) (cE t) (cR t) (Sj t):=by kernel_rfl
def QD (Yi:List Int) (n_1_0:Nat) (Yj:List Int) (n_1_1:Nat) (Yk:List Int) (n_1_2:Nat):St:={ tm:=[(6,.s (.ptr 0 0 3)),(7,.s (.ptr 1 0 3))],hp:=[(0,{ ty:=63,n:=3,row:=Row.mix [.pl (.raw (Value.slice none 0 0)),.pl (.raw (Value.slice none 0 0)),.pl (.raw (Value.slice none 0 0))] }),(1,{ ty:=63,n:=3,row:=Row.mix [dI Yi n_1_0,dI Yj n_1_1,dI Yk n_1_2] })],nx:=2,sz:=30 }
theorem aCt {β:Type} (fu:Nat) (G:FG β) (H:FH β) (x1:List Int) (n1:Nat) (x2:List Int) (n2:Nat) (v8:Int) (Ge:List Int) (n_0_0:Nat) (Gf:List Int) (n_0_1:Nat) (Gg:List Int) (n_0_2:Nat) (Gh:List Int) (n_2_0:Nat) (Gi:List Int) (n_2_1:Nat) (Gj:List Int) (n_2_2:Nat):fI prog (QC T0 R0 aG aM cB cE cR Sj T1 R1 aN T2 R2 bC bW dW eT eX f2f T3 R3 bO) fu Me G H (E0 x1 n1 x2 n2 v8 Ge n_0_0 Gf n_0_1 Gg n_0_2 Gh n_2_0 Gi n_2_1 Gj n_2_2)=bif decide (0 <= v8) then (R2 [.c (.mix [dI Gh n_2_0,dI Gi n_2_1,dI Gj n_2_2]),.c (.mix [dI Gh n_2_0,dI Gi n_2_1,dI Gj n_2_2]),.s (dI x2 n2)]).bind λ t=>(R3 [.s (dI x1 n1),.int .i64 v8]).bind λ dH=>bif decide (bO dH=1) then (R2 [.c (.mix [dI (bC t) (bW t),dI (dW t) (eT t),dI (eX t) (f2f t)]),.c (.mix [dI Ge n_0_0,dI Gf n_0_1,dI Gg n_0_2]),.s (dI x2 n2)]).bind λ t=>G (some (E0 x1 n1 x2 n2 (i64.wrap (v8 - 1)) Ge n_0_0 Gf n_0_1 Gg n_0_2 (bC t) (bW t) (dW t) (eT t) (eX t) (f2f t))) else G (some (E0 x1 n1 x2 n2 (i64.wrap (v8 - 1)) Ge n_0_0 Gf n_0_1 Gg n_0_2 (bC t) (bW t) (dW t) (eT t) (eX t) (f2f t))) else H (Ex.exit 0) (some (QD Gh n_2_0 Gi n_2_1 Gj n_2_2)):=by kernel_rfl
theorem aCu (fu:Nat) (Yi:List Int) (n_1_0:Nat) (Yj:List Int) (n_1_1:Nat) (Yk:List Int) (n_1_2:Nat):Mf T0 R0 aG aM cB cE cR Sj T1 R1 aN T2 R2 bC bW dW eT eX f2f T3 R3 bO fu  (Ex.exit 0) (QD Yi n_1_0 Yj n_1_1 Yk n_1_2)=some (AV.c (.mix [dI Yi n_1_0,dI Yj n_1_1,dI Yk n_1_2])):=by kernel_rfl
end
section
variable (T0:Type) (R0:FA T0) (aG:T0->List Int) (aM:T0->Nat) (T1:Type) (R1:FA T1) (aN:T1->List Int) (bI:T1->Nat)
def aOs:Cg:=⟨⟨dE [(43,⟨R0,λ t=>AV.s (dI (aG t) (aM t))⟩),(40,⟨R1,λ t=>AV.s (dI (aN t) (bI t))⟩)],[],dR⟩,[]⟩
theorem aR8 (fu:Nat) (p:RP):bB prog Tryz.f98 (aOs T0 R0 aG aM T1 R1 aN bI) fu [Ei p]=(R0 [.s (dI (nb p.z) (nb p.z).length)]).bind λ t=>(R1 [.s (dI (nb p.x) (nb p.x).length),.s (dI (aG t) (aM t))]).bind λ dH=>(R1 [.s (dI (nb p.y) (nb p.y).length),.s (dI (aG t) (aM t))]).bind λ t=>some (AV.tup [.s (dI (aN dH) (bI dH)),.s (dI (aN t) (bI t))]):=by kernel_rfl
end
set_option maxRecDepth 4000
theorem CallOk.conv {P:Program} {f:FuncId} {T:Type} {R:FA T} {e1 e2:T->AV} (hA:CallOk P f ⟨R,e1⟩)
  (h:∀ (t:T) (w:World) (X:Nat->Prop) (v:Value),AVR w (P0 X) (e1 t) v->AVR w (P0 X) (e2 t) v /\ (e2 t).refs=[]):CallOk P f ⟨R,e2⟩:=by
 intro args t ht w X vs hX hargs;rcases hA args t ht w X vs hX hargs with ⟨v,w',hr,h1,h2,h3⟩ | ⟨hr,hc⟩
 ·have:=h t w' X v h1;exact .inl ⟨v,w',hr,this.1,this.2,h3⟩
 ·refine .inr ⟨hr,hc.mono λ e w' he=>?_⟩;obtain ⟨v,e1,h1,h2,h3⟩:=he;have:=h t w' X v h1;exact ⟨v,e1,this.1,this.2,h3⟩
theorem jC {a:List Int} {n:Nat} (h:kZ a n=true):∃ x,a=nb x /\ n=(nb x).length /\ x < aJ /\ vB a=x:=by
 unfold kZ at h;rw [aX] at h;obtain ⟨x,h1,h2,_,h3⟩:=o8 h.1;refine ⟨x,h1,h2,?_,h3⟩;have:=dL.mp h.2;rwa [h3] at this
theorem jD {x:Nat} (h:x < aJ):kZ (nb x) (nb x).length=true:=by
 have l:=rL h;unfold kZ bP;rw [nV (by omega),fY,dL.mpr h]; rfl
structure RP.ok (p:RP):Prop where
 x:p.x < aJ
 y:p.y < aJ
 z:p.z < aJ
theorem QE {T:Type} {F:RP->T} {args:List AV} {t:T} (h:QB F args=some t):∃ p,args=[Ei p] /\ p.ok /\ t=F p:=by
 unfold QB at h;split at h
 ·obtain ⟨h1,h2⟩:=cC h;simp only [aX] at h1;obtain ⟨x,rfl,rfl,hx,ex⟩:=jC h1.1;obtain ⟨y,rfl,rfl,hy,ey⟩:=jC h1.2.1;obtain ⟨z,rfl,rfl,hz,ez⟩:=jC h1.2.2;rw [ex,ey,ez] at h2;exact ⟨⟨x,y,z⟩,rfl,⟨hx,hy,hz⟩,h2.symm⟩
 ·cases h
theorem aCv {T:Type} (F:RP->T) {p:RP} (h:p.ok):QB F [Ei p]=some (F p):=by
 show cond (kZ (nb p.x) (nb p.x).length && (kZ (nb p.y) (nb p.y).length && kZ (nb p.z) (nb p.z).length)) (some (F ⟨vB (nb p.x),vB (nb p.y),vB (nb p.z)⟩)) none=_;rw [jD h.x,jD h.y,jD h.z,fY,fY,fY]; rfl
theorem ZF {T:Type} {F:RP->RP->Nat->T} {args:List AV} {t:T} (h:Mc F args=some t):∃ p q d,args=[Ei p,Ei q,eN d] /\ p.ok /\ q.ok /\ d < aJ /\ t=F p q d:=by
 unfold Mc at h;split at h
 ·obtain ⟨h1,h2⟩:=cC h;simp only [aX] at h1;obtain ⟨x,rfl,rfl,hx,ex⟩:=jC h1.1.1.1;obtain ⟨y,rfl,rfl,hy,ey⟩:=jC h1.1.1.2.1;obtain ⟨z,rfl,rfl,hz,ez⟩:=jC h1.1.1.2.2;obtain ⟨x',rfl,rfl,hx',ex'⟩:=jC h1.1.2.1;obtain ⟨y',rfl,rfl,hy',ey'⟩:=jC h1.1.2.2.1;obtain ⟨z',rfl,rfl,hz',ez'⟩:=jC h1.1.2.2.2;obtain ⟨d,rfl,rfl,hd,ed⟩:=jC h1.2;rw [ex,ey,ez,ex',ey',ez',ed] at h2;exact ⟨⟨x,y,z⟩,⟨x',y',z'⟩,d,rfl,⟨hx,hy,hz⟩,⟨hx',hy',hz'⟩,hd,h2.symm⟩
 ·cases h
theorem aJb {T:Type} (F:RP->RP->Nat->T) {p q:RP} {d:Nat} (h:p.ok) (k:q.ok) (hd:d < aJ):Mc F [Ei p,Ei q,eN d]=some (F p q d):=by
 show cond (kZ (nb p.x) (nb p.x).length && (kZ (nb p.y) (nb p.y).length && kZ (nb p.z) (nb p.z).length) && (kZ (nb q.x) (nb q.x).length && (kZ (nb q.y) (nb q.y).length && kZ (nb q.z) (nb q.z).length)) && kZ (nb d) (nb d).length)
  (some (F ⟨vB (nb p.x),vB (nb p.y),vB (nb p.z)⟩ ⟨vB (nb q.x),vB (nb q.y),vB (nb q.z)⟩ (vB (nb d)))) none=_
 rw [jD h.x,jD h.y,jD h.z,jD k.x,jD k.y,jD k.z,jD hd,fY,fY,fY,fY,fY,fY,fY]; rfl
theorem Kv {T:Type} {F:RP->Nat->Nat->T} {C:Nat->Bool} {args:List AV} {t:T} (h:IK F C args=some t):∃ p n d,args=[Ei p,eN n,eN d] /\ p.ok /\ (nb n).length <= 1048576 /\ C n=true /\ d < aJ /\ t=F p n d:=by
 unfold IK at h;split at h
 ·obtain ⟨h1,h2⟩:=cC h;simp only [aX] at h1;obtain ⟨x,rfl,rfl,hx,ex⟩:=jC h1.1.1.1;obtain ⟨y,rfl,rfl,hy,ey⟩:=jC h1.1.1.2.1;obtain ⟨z,rfl,rfl,hz,ez⟩:=jC h1.1.1.2.2;obtain ⟨n,rfl,rfl,hn,en⟩:=o8 h1.1.2.1;obtain ⟨d,rfl,rfl,hd,ed⟩:=jC h1.2;have hc:=h1.1.2.2;rw [en] at hc;rw [ex,ey,ez,en,ed] at h2;exact ⟨⟨x,y,z⟩,n,d,rfl,⟨hx,hy,hz⟩,hn,hc,hd,h2.symm⟩
 ·cases h
theorem Vt {T:Type} (F:RP->Nat->Nat->T) (C:Nat->Bool) {p:RP} {n d:Nat} (h:p.ok) (hn:(nb n).length <= 1048576) (hc:C n=true) (hd:d < aJ):IK F C [Ei p,eN n,eN d]=some (F p n d):=by
 show cond (kZ (nb p.x) (nb p.x).length && (kZ (nb p.y) (nb p.y).length && kZ (nb p.z) (nb p.z).length) && (K3 (nb n) (nb n).length && C (vB (nb n))) && kZ (nb d) (nb d).length)
  (some (F ⟨vB (nb p.x),vB (nb p.y),vB (nb p.z)⟩ (vB (nb n)) (vB (nb d)))) none=_
 rw [jD h.x,jD h.y,jD h.z,nV hn,jD hd,fY,fY,fY,fY,fY,hc]; rfl
def Mg:Summ:={ T:=RP,run:=Gl pZ,enc:=λ _=>.c (.mix [.pl (.raw (.slice none 0 0)),.dat (.ints .i64 [1]) 1 1,.dat (.ints .i64 [1]) 1 1]) }
abbrev aR9:Cg:=aOq 
theorem aJc:CfOk prog aR9.c:=gk <| aK
theorem ZG:CallOk prog 47 Mg:=by
 refine i7 aJc Tryz.func47 ?_;intro args t ht;unfold Mg Gl at ht;simp only at ht;split at ht
 ·exact aR4 ..
 ·cases ht
theorem QF:CallOk prog 47 aCr:=by
 intro args t ht w X vs hX hargs;have ht':Gl pZ args=some t:=ht;have e:t=pZ:=by
  unfold Gl at ht';split at ht'
  ·exact (dG ht').symm
  ·cases ht'
 subst e;have key:∀ (w:World) (v:Value),AVR w (P0 X) (Mg.enc pZ) v->AVR w (P0 X) (Ei pZ) v /\ (Ei pZ).refs=[]:=by
  intro w v h;refine ⟨?_,rfl⟩;obtain ⟨cs,e,hl,hc⟩:=h;refine ⟨cs,e,hl,λ i x v' hx hv=>?_⟩
  match i,hx with
  | 0,hx=>
   cases hx;have h0:SVR w (P0 X) (.pl (.raw (.slice none 0 0))) v':=hc 0 _ v' rfl hv;have h0':v'=.slice none 0 0:=h0.1;exact ⟨rfl,.inl ⟨rfl,h0'⟩⟩
  | 1,hx=>cases hx; exact hc 1 _ v' rfl hv
  | 2,hx=>cases hx; exact hc 2 _ v' rfl hv
 rcases ZG args pZ ht w X vs hX hargs with ⟨v,w',hr,h1,h2,h3⟩ | ⟨hr,hc⟩
 ·exact .inl ⟨v,w',hr,(key w' v h1).1,(key w' v h1).2,h3⟩
 ·refine .inr ⟨hr,hc.mono λ e w' he=>?_⟩;obtain ⟨v,e1,h1,h2,h3⟩:=he;exact ⟨v,e1,(key w' v h1).1,(key w' v h1).2,h3⟩
theorem mP (n:Nat):n%aJ < aJ:=bK _ (by decide)
abbrev aSa:Cg:=aOr (Nat) oR (λ t=>nb t) (λ t=>(nb t).length) (Nat) y7 (λ t=>nb t) (λ t=>(nb t).length) (Nat) GK (λ t=>nb t) (λ t=>(nb t).length)
theorem aJd:CfOk prog aSa.c:=gk <| aA uC <| aA Da <| aA NV <| aK
theorem aCw:CallOk prog 101 aCq:=by
 refine i7 aJd Tryz.func101 ?_;intro args t ht;obtain ⟨p,q,d,rfl,hp,hq,hd,rfl⟩:=ZF (F:=KN) ht;have m1:=bJ hp.z hq.z;have ha:=mP (p.z*q.z);unfold KN;generalize p.z*q.z%aJ=a at *;have m2:=bJ ha ha;have hb:=mP (a*a);generalize a*a%aJ=b at *;have m3:=bJ hp.x hq.x;have hxx:=mP (p.x*q.x);generalize p.x*q.x%aJ=xx at *;have m4:=bJ hp.y hq.y;have hyy:=mP (p.y*q.y);generalize p.y*q.y%aJ=yy at *;have m5:=bJ hxx hyy;have hxy:=mP (xx*yy);generalize xx*yy%aJ=xy at *;have m6:=bJ hd hxy;have he:=mP (d*xy);generalize d*xy%aJ=e at *;have s1:=nJ hb he;have hf:=mP (b+aJ - e);generalize (b+aJ - e)%aJ=f at *;have a1:=wE hb he;have hg:=mP (b+e);generalize (b+e)%aJ=g at *;have m7:=bJ ha hf;have h7:=mP (a*f);generalize a*f%aJ=af at *;have m8:=bJ hp.x hq.y;have h8:=mP (p.x*q.y);generalize p.x*q.y%aJ=c1 at *;have m9:=bJ hp.y hq.x;have h9:=mP (p.y*q.x);generalize p.y*q.x%aJ=c2 at *;have a2:=wE h8 h9;have hc:=mP (c1+c2);generalize (c1+c2)%aJ=c at *;have m10:=bJ h7 hc;have m11:=bJ ha hg;have h11:=mP (a*g);generalize a*g%aJ=ag at *;have a3:=wE hyy hxx;have hs:=mP (yy+xx);generalize (yy+xx)%aJ=s at *;have m12:=bJ h11 hs;have m13:=bJ hf hg;generalize af*c%aJ=X at *;generalize ag*s%aJ=Y at *;generalize f*g%aJ=Z at *;refine (aR5 ..).trans ?_;simp only [eN] at m1 m2 m3 m4 m5 m6 s1 a1 m7 m8 m9 a2 m10 m11 a3 m12 m13;rw [m1,aC,m2,aC,m3,aC,m4,aC,m5,aC,m6,aC,s1,aC,a1,aC,m7,aC,m8,aC,m9,aC,a2,aC,m10,aC,m11,aC,a3,aC,m12,aC,m13,aC];rfl
theorem Kw {p q:RP} {d:Nat} (h:p.ok) (k:q.ok) (hd:d < aJ):Md [Ei p,Ei q,eN d]=some (KN p q d):=aJb KN h k hd
theorem DJ (p q:RP) (d:Nat):(KN p q d).ok:=⟨mP _,mP _,mP _⟩
theorem DK:pZ.ok:=⟨by decide,by decide,by decide⟩
set_option maxRecDepth 4000
abbrev TG:Cg:=QC (RP) zV (λ t=>nb t.x) (λ t=>(nb t.x).length) (λ t=>nb t.y) (λ t=>(nb t.y).length) (λ t=>nb t.z) (λ t=>(nb t.z).length) (Nat) A4 (λ t=>↑t) (RP) Md (λ t=>nb t.x) (λ t=>(nb t.x).length) (λ t=>nb t.y) (λ t=>(nb t.y).length) (λ t=>nb t.z) (λ t=>(nb t.z).length) (Nat) pG (λ t=>↑t)
theorem aJe:CfOk prog TG.c:=gk <| aA QF <| aA Lq <| aA aCw <| aA BM <| aK
theorem aCx (p:RP) (d:Nat) (c:RP) (b:Bool):(F9 p d c b).ok:=by
 cases b
 ·exact DJ _ _ _
 ·exact DJ _ _ _
theorem QG (p:RP) (d:Nat):∀ (l:List Bool) (c:RP),c.ok->(l.foldl (F9 p d) c).ok
 | [],_,hc=>hc
 | b :: r,c,hc=>QG p d r _ (aCx p d c b)
theorem ZH (p:RP) (n d:Nat):(xJ p n d).ok:=QG p d _ _ DK
theorem aJf {p:RP} {n d:Nat} (hp:p.ok) (hn:(nb n).length <= 64) (hd:d < aJ) (fu:Nat):∀ (k m:Nat) (c:RP),k < m->k <= 512->c.ok ->
  eS prog TG fu Me (Mf _ zV (λ t=>nb t.x) (λ t=>(nb t.x).length) (λ t=>nb t.y) (λ t=>(nb t.y).length) (λ t=>nb t.z) (λ t=>(nb t.z).length) _ A4 (λ t=>(t:Int)) _ Md (λ t=>nb t.x) (λ t=>(nb t.x).length) (λ t=>nb t.y) (λ t=>(nb t.y).length) (λ t=>nb t.z) (λ t=>(nb t.z).length) _ pG (λ t=>(t:Int)) fu) m
   (some (E0 (nb n) (nb n).length (nb d) (nb d).length ((k:Int) - 1) (nb p.x) (nb p.x).length (nb p.y) (nb p.y).length (nb p.z) (nb p.z).length (nb c.x) (nb c.x).length (nb c.y) (nb c.y).length (nb c.z) (nb c.z).length))=some (Ei ((fQ n k).foldl (F9 p d) c)):=by
 intro k
 induction k with
 | zero=>
  intro m c hm _ hc;obtain ⟨m,rfl⟩:=aP (by omega:m ≠ 0);rw [aF,aCt,aH (by omega),aD,aR,aCu];rfl
 | succ k ih=>
  intro m c hm hk hc;obtain ⟨m,rfl⟩:=aP (by omega:m ≠ 0);have a1:=Kw hc hc hd;have h1:=DJ c c d;have b:=tM (x:=n) (i:=(k:Int)) (by omega) (by omega) (by omega);have hb:mH n (k:Int)=n / 2 ^ k%2:=by rw [mH,aH (by omega),aD,bE]
  rw [hb] at b;have a2:=Kw h1 hp hd;have key:∀ c':RP,c'.ok->c'=F9 p d c (Nat.beq (n / 2 ^ k%2) 1)->eS prog TG fu Me (Mf _ zV (λ t=>nb t.x) (λ t=>(nb t.x).length) (λ t=>nb t.y) (λ t=>(nb t.y).length) (λ t=>nb t.z) (λ t=>(nb t.z).length) _ A4 (λ t=>(t:Int)) _ Md (λ t=>nb t.x) (λ t=>(nb t.x).length) (λ t=>nb t.y) (λ t=>(nb t.y).length) (λ t=>nb t.z) (λ t=>(nb t.z).length) _ pG (λ t=>(t:Int)) fu) m
   (some (E0 (nb n) (nb n).length (nb d) (nb d).length ((k:Int) - 1) (nb p.x) (nb p.x).length (nb p.y) (nb p.y).length (nb p.z) (nb p.z).length (nb c'.x) (nb c'.x).length (nb c'.y) (nb c'.y).length (nb c'.z) (nb c'.z).length))=some (Ei ((fQ n (k+1)).foldl (F9 p d) c)):=by
   intro c' hc' e;rw [ih m c' (by omega) (by omega) hc',e];rfl
  have e:((k+1:Nat):Int) - 1=(k:Int):=by omega
  have ew:i64.wrap ((k:Int) - 1)=(k:Int) - 1:=bY (by omega) (by omega);have hbt:n / 2 ^ k%2 < 2:=bK _ (by omega);generalize n / 2 ^ k%2=bb at *;rw [e,aF,aCt,aE (by omega),aB];simp only [Ei,eN] at a1 a2 b;rw [a1,aC,b,aC]
  match bb,hbt with
  | 0,_=>
   rw [aH (by omega),aD,ew];exact key _ h1 rfl
  | 1,_=>
   rw [aE (by omega),aB,a2,aC,ew];exact key _ (DJ _ _ _) rfl
theorem aZY {n:Nat} (h:n < lJ):bl n <= 512:=Mm n 8 (Nat.lt_of_lt_of_eq h (by decide +kernel))
theorem ZI:CallOk prog 52 Vp:=by
 refine aZ (fu:=λ _=>600) aJe Tryz.func52 ?_;intro args t ht;obtain ⟨p,n,d,rfl,hp,_,hc,hd,rfl⟩:=Kv (F:=xJ) (C:=λ n=>Nat.blt n lJ) ht;have hn:n < lJ:=dL.mp hc;have hl:(nb n).length <= 64:=dA hn;have l:=Jn (x:=n) (by omega);have hb:=aZY hn;simp only [eN] at l;refine (aR7 ..).trans ?_;rw [show zV []=some pZ from rfl,aC,l,aC,bY (by omega) (by omega)];exact aJf hp hl hd 600 (bl n) 600 pZ (by omega) (by omega) DK
theorem TH {p:RP} {n d:Nat} (h:p.ok) (hn:n < lJ) (hd:d < aJ):Vq [Ei p,eN n,eN d]=some (xJ p n d) :=
 Vt xJ (λ n=>Nat.blt n lJ) h (cK (dA (k:=64) hn) (by decide)) (dL.mpr hn) hd
abbrev aSb:Cg:=aOs (Nat) LT (λ t=>nb t) (λ t=>(nb t).length) (Nat) oR (λ t=>nb t) (λ t=>(nb t).length)
theorem aJg:CfOk prog aSb.c:=gk <| aA Mr <| aA uC <| aK
theorem ZJ:CallOk prog 98 Vr:=by
 refine i7 aJg Tryz.func98 ?_;intro args t ht;obtain ⟨p,rfl,hp,rfl⟩:=QE (F:=Bf) ht;have i:=Ly hp.z;have hi:Bl p.z < aJ:=mP _;have e:Bf p=(p.x*Bl p.z%aJ,p.y*Bl p.z%aJ):=rfl;rw [e];generalize Bl p.z=zi at *;have m1:=bJ hp.x hi;have m2:=bJ hp.y hi;simp only [eN] at i m1 m2;refine (aR8 ..).trans ?_;rw [i,aC,m1,aC,m2,aC];rfl
theorem TI {p:RP} (h:p.ok):Vs [Ei p]=some (Bf p):=aCv Bf h
abbrev aSc:Cg:=aOo 
theorem aJh:CfOk prog aSc.c:=gk <| aK
theorem QH:CallOk prog 74 aCs:=by
 refine i7 aJh Tryz.func74 ?_;intro args t ht;obtain ⟨p,rfl,hp,rfl⟩:=Ai (F:=λ p=>p) ht;exact aR2 ..
theorem E1 {p:Pt} (h:qF p):TF [eP p]=some p:=Js (λ p=>p) h
abbrev aSd:Cg:=aOp 
theorem aJi:CfOk prog aSd.c:=gk <| aK
theorem aCy:CallOk prog 120 aXK:=by
 refine i7 aJi Tryz.func120 ?_;intro args t ht;obtain ⟨x,y,z,w,rfl,_,_,_,_,rfl⟩:=SA (F:=λ x y z t=>(⟨x,y,z,t⟩:Pt)) ht;exact aR3 ..
theorem Vu {x y z t:Fe} (h1:cN x) (h2:cN y) (h3:cN z) (h4:cN t):aJa [eF x,eF y,eF z,eF t]=some ⟨x,y,z,t⟩:=aHj (λ x y z t=>(⟨x,y,z,t⟩:Pt)) h1 h2 h3 h4
end
end Go.Eng
