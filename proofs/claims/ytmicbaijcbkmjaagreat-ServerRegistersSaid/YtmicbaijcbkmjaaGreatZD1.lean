import Derived.Test.YtmicbaijcbkmjaaGreatZF8
import Derived.Test.YtmicbaijcbkmjaaGreatZG2
namespace Go.Eng
open Go.IntKind (u64 i64 u8)
noncomputable section
open Go Go.Proofs
set_option linter.all false
structure RP where
 x:Nat
 y:Nat
 z:Nat
def Ei (p:RP):AV:=.c (.mix [.dat (.ints .i64 (nb p.x)) (nb p.x).length 1,.dat (.ints .i64 (nb p.y)) (nb p.y).length 1,.dat (.ints .i64 (nb p.z)) (nb p.z).length 1])
def k8 (a:List Int) (n:Nat):Bool:=Lm a n && bP (vB a)
def Ro {T:Type} (F:RP->T):FA T
 | [.c (.mix [.dat (.ints .i64 a) n 1,.dat (.ints .i64 b) m 1,.dat (.ints .i64 c) k 1])]=>cond (k8 a n && (k8 b m && k8 c k)) (some (F ⟨vB a,vB b,vB c⟩)) none
 | _=>none
def OZ {T:Type} (F:RP->RP->Nat->T):FA T
 | [.c (.mix [.dat (.ints .i64 a) n 1,.dat (.ints .i64 b) m 1,.dat (.ints .i64 c) k 1]),.c (.mix [.dat (.ints .i64 a') n' 1,.dat (.ints .i64 b') m' 1,.dat (.ints .i64 c') k' 1]),.c (.s (.dat (.ints .i64 d) j 1))]=>
  cond (k8 a n && (k8 b m && k8 c k) && (k8 a' n' && (k8 b' m' && k8 c' k')) && k8 d j) (some (F ⟨vB a,vB b,vB c⟩ ⟨vB a',vB b',vB c'⟩ (vB d))) none
 | _=>none
def Je {T:Type} (F:RP->Nat->Nat->T) (C:Nat->Bool):FA T
 | [.c (.mix [.dat (.ints .i64 a) n 1,.dat (.ints .i64 b) m 1,.dat (.ints .i64 c) k 1]),.c (.s (.dat (.ints .i64 e) i 1)),.c (.s (.dat (.ints .i64 d) j 1))]=>
  cond (k8 a n && (k8 b m && k8 c k) && (Lm e i && C (vB e)) && k8 d j) (some (F ⟨vB a,vB b,vB c⟩ (vB e) (vB d))) none
 | _=>none
def Kf (p q:RP) (d:Nat):RP :=
 ⟨p.z * q.z % aJ * ((p.z * q.z % aJ * (p.z * q.z % aJ) % aJ + aJ - d * (p.x * q.x % aJ * (p.y * q.y % aJ) % aJ) % aJ) % aJ) % aJ * ((p.x * q.y % aJ + p.y * q.x % aJ) % aJ) % aJ,
  p.z * q.z % aJ * ((p.z * q.z % aJ * (p.z * q.z % aJ) % aJ + d * (p.x * q.x % aJ * (p.y * q.y % aJ) % aJ) % aJ) % aJ) % aJ * ((p.y * q.y % aJ + p.x * q.x % aJ) % aJ) % aJ,
  (p.z * q.z % aJ * (p.z * q.z % aJ) % aJ + aJ - d * (p.x * q.x % aJ * (p.y * q.y % aJ) % aJ) % aJ) % aJ * ((p.z * q.z % aJ * (p.z * q.z % aJ) % aJ + d * (p.x * q.x % aJ * (p.y * q.y % aJ) % aJ) % aJ) % aJ) % aJ⟩
def aGA:Summ:={ T:=RP,run:=OZ Kf,enc:=Ei }
def Oa:FA RP:=aGA.run
def qB:RP:=⟨0,1,1⟩
def aGB:Summ:={ T:=RP,run:=Gr qB,enc:=Ei }
def AY:FA RP:=aGB.run
def GU (p:RP) (d:Nat) (c:RP) (b:Bool):RP:=cond b (Kf (Kf c c d) p d) (Kf c c d)
def yJ (p:RP) (n d:Nat):RP:=(fT n (bl n)).foldl (GU p d) qB
def X9:Summ:={ T:=RP,run:=Je yJ λ n=>Nat.blt n lG,enc:=Ei }
def YA:FA RP:=X9.run
def Bl (p:RP):Nat × Nat:=(p.x*(p.z ^ (aJ - 2)%aJ)%aJ,p.y*(p.z ^ (aJ - 2)%aJ)%aJ)
def eNN (t:Nat × Nat):AV:=.tup [.s (.dat (.ints .i64 (nb t.1)) (nb t.1).length 1),.s (.dat (.ints .i64 (nb t.2)) (nb t.2).length 1)]
def YB:Summ:={ T:=Nat × Nat,run:=Ro Bl,enc:=eNN }
def YC:FA (Nat × Nat):=YB.run
def ePF (p:Pt):AV:=.tup [.s (.pl (.agg (.ints .u64 [(p.x.a:Int),p.x.b,p.x.c,p.x.d,p.x.e]) 5)),.s (.pl (.agg (.ints .u64 [(p.y.a:Int),p.y.b,p.y.c,p.y.d,p.y.e]) 5)),.s (.pl (.agg (.ints .u64 [(p.z.a:Int),p.z.b,p.z.c,p.z.d,p.z.e]) 5)),.s (.pl (.agg (.ints .u64 [(p.t.a:Int),p.t.b,p.t.c,p.t.d,p.t.e]) 5))]
def aGC:Summ:={ T:=Pt,run:=EC λ p=>p,enc:=ePF }
def Uh:FA Pt:=aGC.run
def aYZ:Summ:={ T:=Pt,run:=Ld λ x y z t=>⟨x,y,z,t⟩,enc:=eP }
def aMQ:FA Pt:=aYZ.run
def aPG:Cg:=⟨⟨dD [],[],dS⟩,[]⟩
theorem aVK (fu:Nat) (a b c d e f g h i j k l m n o p q r s t:Int):bB prog Tryz.f74 aPG fu [aU [a,b,c,d,e,f,g,h,i,j,k,l,m,n,o,p,q,r,s,t] 20]=some (AV.tup [.s (.pl (.agg (.ints .u64 (List.take 5 (List.drop 0 [a,b,c,d,e,f,g,h,i,j,k,l,m,n,o,p,q,r,s,t]))) 5)),.s (.pl (.agg (.ints .u64 (List.take 5 (List.drop 5 [a,b,c,d,e,f,g,h,i,j,k,l,m,n,o,p,q,r,s,t]))) 5)),.s (.pl (.agg (.ints .u64 (List.take 5 (List.drop 10 [a,b,c,d,e,f,g,h,i,j,k,l,m,n,o,p,q,r,s,t]))) 5)),.s (.pl (.agg (.ints .u64 (List.take 5 (List.drop 15 [a,b,c,d,e,f,g,h,i,j,k,l,m,n,o,p,q,r,s,t]))) 5))]):=by kernel_rfl
def aPH:Cg:=⟨⟨dD [],[],dS⟩,[]⟩
theorem aVL (fu:Nat) (a b c d e f g h i j k l m n o p q r s t:Int):bB prog Tryz.f120 aPH fu [aU [a,b,c,d,e] 5,aU [f,g,h,i,j] 5,aU [k,l,m,n,o] 5,aU [p,q,r,s,t] 5]=some (AV.agg (.ints .u64 ([a,b,c,d,e]++([f,g,h,i,j]++([k,l,m,n,o]++[p,q,r,s,t])))) 20):=by kernel_rfl
def aPI:Cg:=⟨⟨dD [],[],dS⟩,[]⟩
theorem aVM (fu:Nat):bB prog Tryz.f47 aPI fu []=some (AV.c (.mix [.pl (.raw (Value.slice none 0 0)),dI [1] 1,dI [1] 1])):=by kernel_rfl
section
variable (T0:Type) (R0:FA T0) (aG:T0->List Int) (aM:T0->Nat) (T1:Type) (R1:FA T1) (aN:T1->List Int) (bI:T1->Nat) (T2:Type) (R2:FA T2) (bC:T2->List Int) (bW:T2->Nat)
def aPJ:Cg:=⟨⟨dD [(40,⟨R0,λ t=>AV.s (dI (aG t) (aM t))⟩),(41,⟨R1,λ t=>AV.s (dI (aN t) (bI t))⟩),(48,⟨R2,λ t=>AV.s (dI (bC t) (bW t))⟩)],[],dS⟩,[]⟩
theorem aVN (fu:Nat) (p q:RP) (d:Nat):bB prog Tryz.f101 (aPJ T0 R0 aG aM T1 R1 aN bI T2 R2 bC bW) fu [Ei p,Ei q,eN d]=(R0 [.s (dI (nb p.z) (nb p.z).length),.s (dI (nb q.z) (nb q.z).length)]).bind λ t=>(R0 [.s (dI (aG t) (aM t)),.s (dI (aG t) (aM t))]).bind λ dH=>(R0 [.s (dI (nb p.x) (nb p.x).length),.s (dI (nb q.x) (nb q.x).length)]).bind λ eU=>(R0 [.s (dI (nb p.y) (nb p.y).length),.s (dI (nb q.y) (nb q.y).length)]).bind λ gF=>(R0 [.s (dI (aG eU) (aM eU)),.s (dI (aG gF) (aM gF))]).bind λ gT=>(R0 [.s (dI (nb d) (nb d).length),.s (dI (aG gT) (aM gT))]).bind λ gJ=>(R1 [.s (dI (aG dH) (aM dH)),.s (dI (aG gJ) (aM gJ))]).bind λ kA=>(R2 [.s (dI (aG dH) (aM dH)),.s (dI (aG gJ) (aM gJ))]).bind λ vI=>(R0 [.s (dI (aG t) (aM t)),.s (dI (aN kA) (bI kA))]).bind λ tP=>(R0 [.s (dI (nb p.x) (nb p.x).length),.s (dI (nb q.y) (nb q.y).length)]).bind λ tQ=>(R0 [.s (dI (nb p.y) (nb p.y).length),.s (dI (nb q.x) (nb q.x).length)]).bind λ gX=>(R2 [.s (dI (aG tQ) (aM tQ)),.s (dI (aG gX) (aM gX))]).bind λ gM=>(R0 [.s (dI (aG tP) (aM tP)),.s (dI (bC gM) (bW gM))]).bind λ iV=>(R0 [.s (dI (aG t) (aM t)),.s (dI (bC vI) (bW vI))]).bind λ t=>(R2 [.s (dI (aG gF) (aM gF)),.s (dI (aG eU) (aM eU))]).bind λ fO=>(R0 [.s (dI (aG t) (aM t)),.s (dI (bC fO) (bW fO))]).bind λ t=>(R0 [.s (dI (aN kA) (bI kA)),.s (dI (bC vI) (bW vI))]).bind λ gO=>some (AV.c (.mix [dI (aG iV) (aM iV),dI (aG t) (aM t),dI (aG gO) (aM gO)])):=by kernel_rfl
end
section
variable (T0:Type) (R0:FA T0) (aG:T0->List Int) (aM:T0->Nat) (cB:T0->List Int) (cE:T0->Nat) (cR:T0->List Int) (Sk:T0->Nat) (T1:Type) (R1:FA T1) (aN:T1->Int) (T2:Type) (R2:FA T2) (bC:T2->List Int) (bW:T2->Nat) (dW:T2->List Int) (eT:T2->Nat) (eX:T2->List Int) (f2f:T2->Nat) (T3:Type) (R3:FA T3) (bO:T3->Int)
def Rp:Cg:=⟨⟨dD [(47,⟨R0,λ t=>AV.c (.mix [dI (aG t) (aM t),dI (cB t) (cE t),dI (cR t) (Sk t)])⟩),(100,⟨R1,λ t=>AV.int .i64 (aN t)⟩),(101,⟨R2,λ t=>AV.c (.mix [dI (bC t) (bW t),dI (dW t) (eT t),dI (eX t) (f2f t)])⟩),(54,⟨R3,λ t=>AV.int .i64 (bO t)⟩)],[],dS⟩,[(4,[1,2,3,6,7,8],[6,7])]⟩
def FY (x1:List Int) (n1:Nat) (x2:List Int) (n2:Nat) (v8:Int) (Ge:List Int) (n_0_0:Nat) (Gf:List Int) (n_0_1:Nat) (Gg:List Int) (n_0_2:Nat) (Gh:List Int) (n_2_0:Nat) (Gi:List Int) (n_2_1:Nat) (Gj:List Int) (n_2_2:Nat):St:={ tm:=[(1,.s (dI x1 n1)),(2,.s (dI x2 n2)),(3,.s (.ptr 0 0 3)),(6,.s (.ptr 1 0 3)),(7,.s (.ptr 2 0 3)),(8,.int .i64 v8)],hp:=[(0,{ ty:=63,n:=3,row:=Row.mix [dI Ge n_0_0,dI Gf n_0_1,dI Gg n_0_2] }),(1,{ ty:=63,n:=3,row:=Row.mix [.pl (.raw (Value.slice none 0 0)),.pl (.raw (Value.slice none 0 0)),.pl (.raw (Value.slice none 0 0))] }),(2,{ ty:=63,n:=3,row:=Row.mix [dI Gh n_2_0,dI Gi n_2_1,dI Gj n_2_2] })],nx:=3,sz:=30 }
def Ob:Code:=cM (bN [1,1,0,1,2] (bD Tryz.f52))
def Oc (fu:Nat):=lO prog (Rp T0 R0 aG aM cB cE cR Sk T1 R1 aN T2 R2 bC bW dW eT eX f2f T3 R3 bO) fu [1,1,0,1,2] (bD Tryz.f52) (fQ prog Tryz.f52)
abbrev aVO (fu:Nat) (x1:List Int) (n1:Nat) (x2:List Int) (n2:Nat) (v8:Int) (Ge:List Int) (n_0_0:Nat) (Gf:List Int) (n_0_1:Nat) (Gg:List Int) (n_0_2:Nat) (Gh:List Int) (n_2_0:Nat) (Gi:List Int) (n_2_1:Nat) (Gj:List Int) (n_2_2:Nat):=eS prog (Rp T0 R0 aG aM cB cE cR Sk T1 R1 aN T2 R2 bC bW dW eT eX f2f T3 R3 bO) fu Ob (Oc T0 R0 aG aM cB cE cR Sk T1 R1 aN T2 R2 bC bW dW eT eX f2f T3 R3 bO fu ) fu (some (FY x1 n1 x2 n2 v8 Ge n_0_0 Gf n_0_1 Gg n_0_2 Gh n_2_0 Gi n_2_1 Gj n_2_2))
theorem aVP (fu:Nat) (p:RP) (n d:Nat):bB prog Tryz.f52 (Rp T0 R0 aG aM cB cE cR Sk T1 R1 aN T2 R2 bC bW dW eT eX f2f T3 R3 bO) fu [Ei p,eN n,eN d]=(R0 []).bind λ t=>(R1 [.s (dI (nb n) (nb n).length)]).bind λ dH=>aVO T0 R0 aG aM cB cE cR Sk T1 R1 aN T2 R2 bC bW dW eT eX f2f T3 R3 bO fu (nb n) (nb n).length (nb d) (nb d).length (i64.wrap (aN dH - 1)) (nb p.x) (nb p.x).length (nb p.y) (nb p.y).length (nb p.z) (nb p.z).length (aG t) (aM t) (cB t) (cE t) (cR t) (Sk t):=by kernel_rfl
def Rq (Yi:List Int) (n_1_0:Nat) (Yj:List Int) (n_1_1:Nat) (Yk:List Int) (n_1_2:Nat):St:={ tm:=[(6,.s (.ptr 0 0 3)),(7,.s (.ptr 1 0 3))],hp:=[(0,{ ty:=63,n:=3,row:=Row.mix [.pl (.raw (Value.slice none 0 0)),.pl (.raw (Value.slice none 0 0)),.pl (.raw (Value.slice none 0 0))] }),(1,{ ty:=63,n:=3,row:=Row.mix [dI Yi n_1_0,dI Yj n_1_1,dI Yk n_1_2] })],nx:=2,sz:=30 }
theorem aGD {β:Type} (fu:Nat) (G:FG β) (H:FH β) (x1:List Int) (n1:Nat) (x2:List Int) (n2:Nat) (v8:Int) (Ge:List Int) (n_0_0:Nat) (Gf:List Int) (n_0_1:Nat) (Gg:List Int) (n_0_2:Nat) (Gh:List Int) (n_2_0:Nat) (Gi:List Int) (n_2_1:Nat) (Gj:List Int) (n_2_2:Nat):fI prog (Rp T0 R0 aG aM cB cE cR Sk T1 R1 aN T2 R2 bC bW dW eT eX f2f T3 R3 bO) fu Ob G H (FY x1 n1 x2 n2 v8 Ge n_0_0 Gf n_0_1 Gg n_0_2 Gh n_2_0 Gi n_2_1 Gj n_2_2)=bif decide (0 <= v8) then (R2 [.c (.mix [dI Gh n_2_0,dI Gi n_2_1,dI Gj n_2_2]),.c (.mix [dI Gh n_2_0,dI Gi n_2_1,dI Gj n_2_2]),.s (dI x2 n2)]).bind λ t=>(R3 [.s (dI x1 n1),.int .i64 v8]).bind λ dH=>bif decide (bO dH=1) then (R2 [.c (.mix [dI (bC t) (bW t),dI (dW t) (eT t),dI (eX t) (f2f t)]),.c (.mix [dI Ge n_0_0,dI Gf n_0_1,dI Gg n_0_2]),.s (dI x2 n2)]).bind λ t=>G (some (FY x1 n1 x2 n2 (i64.wrap (v8 - 1)) Ge n_0_0 Gf n_0_1 Gg n_0_2 (bC t) (bW t) (dW t) (eT t) (eX t) (f2f t))) else G (some (FY x1 n1 x2 n2 (i64.wrap (v8 - 1)) Ge n_0_0 Gf n_0_1 Gg n_0_2 (bC t) (bW t) (dW t) (eT t) (eX t) (f2f t))) else H (Ex.exit 0) (some (Rq Gh n_2_0 Gi n_2_1 Gj n_2_2)):=by kernel_rfl
theorem aGE (fu:Nat) (Yi:List Int) (n_1_0:Nat) (Yj:List Int) (n_1_1:Nat) (Yk:List Int) (n_1_2:Nat):Oc T0 R0 aG aM cB cE cR Sk T1 R1 aN T2 R2 bC bW dW eT eX f2f T3 R3 bO fu  (Ex.exit 0) (Rq Yi n_1_0 Yj n_1_1 Yk n_1_2)=some (AV.c (.mix [dI Yi n_1_0,dI Yj n_1_1,dI Yk n_1_2])):=by kernel_rfl
end
section
variable (T0:Type) (R0:FA T0) (aG:T0->List Int) (aM:T0->Nat) (T1:Type) (R1:FA T1) (aN:T1->List Int) (bI:T1->Nat)
def aPK:Cg:=⟨⟨dD [(43,⟨R0,λ t=>AV.s (dI (aG t) (aM t))⟩),(40,⟨R1,λ t=>AV.s (dI (aN t) (bI t))⟩)],[],dS⟩,[]⟩
theorem aVQ (fu:Nat) (p:RP):bB prog Tryz.f98 (aPK T0 R0 aG aM T1 R1 aN bI) fu [Ei p]=(R0 [.s (dI (nb p.z) (nb p.z).length)]).bind λ t=>(R1 [.s (dI (nb p.x) (nb p.x).length),.s (dI (aG t) (aM t))]).bind λ dH=>(R1 [.s (dI (nb p.y) (nb p.y).length),.s (dI (aG t) (aM t))]).bind λ t=>some (AV.tup [.s (dI (aN dH) (bI dH)),.s (dI (aN t) (bI t))]):=by kernel_rfl
end
set_option maxRecDepth 4000
theorem CallOk.conv {P:Program} {f:FuncId} {T:Type} {R:FA T} {e1 e2:T->AV} (hA:CallOk P f ⟨R,e1⟩)
  (h:∀ (t:T) (w:World) (X:Nat->Prop) (v:Value),AVR w (P0 X) (e1 t) v->AVR w (P0 X) (e2 t) v /\ (e2 t).refs=[]):CallOk P f ⟨R,e2⟩:=by
 intro args t ht w X vs hX hargs;rcases hA args t ht w X vs hX hargs with ⟨v,w',hr,h1,h2,h3⟩ | ⟨hr,hc⟩
 ·have:=h t w' X v h1;exact .inl ⟨v,w',hr,this.1,this.2,h3⟩
 ·refine .inr ⟨hr,hc.mono λ e w' he=>?_⟩;obtain ⟨v,e1,h1,h2,h3⟩:=he;have:=h t w' X v h1;exact ⟨v,e1,this.1,this.2,h3⟩
theorem jG {a:List Int} {n:Nat} (h:k8 a n=true):∃ x,a=nb x /\ n=(nb x).length /\ x < aJ /\ vB a=x:=by
 unfold k8 at h;rw [aX] at h;obtain ⟨x,h1,h2,_,h3⟩:=oY h.1;refine ⟨x,h1,h2,?_,h3⟩;have:=dL.mp h.2;rwa [h3] at this
theorem jH {x:Nat} (h:x < aJ):k8 (nb x) (nb x).length=true:=by
 have l:=rL h;unfold k8 bP;rw [nP (by omega),fY,dL.mpr h]; rfl
structure RP.ok (p:RP):Prop where
 x:p.x < aJ
 y:p.y < aJ
 z:p.z < aJ
theorem Rr {T:Type} {F:RP->T} {args:List AV} {t:T} (h:Ro F args=some t):∃ p,args=[Ei p] /\ p.ok /\ t=F p:=by
 unfold Ro at h;split at h
 ·obtain ⟨h1,h2⟩:=cC h;simp only [aX] at h1;obtain ⟨x,rfl,rfl,hx,ex⟩:=jG h1.1;obtain ⟨y,rfl,rfl,hy,ey⟩:=jG h1.2.1;obtain ⟨z,rfl,rfl,hz,ez⟩:=jG h1.2.2;rw [ex,ey,ez] at h2;exact ⟨⟨x,y,z⟩,rfl,⟨hx,hy,hz⟩,h2.symm⟩
 ·cases h
theorem aGF {T:Type} (F:RP->T) {p:RP} (h:p.ok):Ro F [Ei p]=some (F p):=by
 show cond (k8 (nb p.x) (nb p.x).length && (k8 (nb p.y) (nb p.y).length && k8 (nb p.z) (nb p.z).length)) (some (F ⟨vB (nb p.x),vB (nb p.y),vB (nb p.z)⟩)) none=_;rw [jH h.x,jH h.y,jH h.z,fY,fY,fY]; rfl
theorem aAr {T:Type} {F:RP->RP->Nat->T} {args:List AV} {t:T} (h:OZ F args=some t):∃ p q d,args=[Ei p,Ei q,eN d] /\ p.ok /\ q.ok /\ d < aJ /\ t=F p q d:=by
 unfold OZ at h;split at h
 ·obtain ⟨h1,h2⟩:=cC h;simp only [aX] at h1;obtain ⟨x,rfl,rfl,hx,ex⟩:=jG h1.1.1.1;obtain ⟨y,rfl,rfl,hy,ey⟩:=jG h1.1.1.2.1;obtain ⟨z,rfl,rfl,hz,ez⟩:=jG h1.1.1.2.2;obtain ⟨x',rfl,rfl,hx',ex'⟩:=jG h1.1.2.1;obtain ⟨y',rfl,rfl,hy',ey'⟩:=jG h1.1.2.2.1;obtain ⟨z',rfl,rfl,hz',ez'⟩:=jG h1.1.2.2.2;obtain ⟨d,rfl,rfl,hd,ed⟩:=jG h1.2;rw [ex,ey,ez,ex',ey',ez',ed] at h2;exact ⟨⟨x,y,z⟩,⟨x',y',z'⟩,d,rfl,⟨hx,hy,hz⟩,⟨hx',hy',hz'⟩,hd,h2.symm⟩
 ·cases h
theorem aMR {T:Type} (F:RP->RP->Nat->T) {p q:RP} {d:Nat} (h:p.ok) (k:q.ok) (hd:d < aJ):OZ F [Ei p,Ei q,eN d]=some (F p q d):=by
 show cond (k8 (nb p.x) (nb p.x).length && (k8 (nb p.y) (nb p.y).length && k8 (nb p.z) (nb p.z).length) && (k8 (nb q.x) (nb q.x).length && (k8 (nb q.y) (nb q.y).length && k8 (nb q.z) (nb q.z).length)) && k8 (nb d) (nb d).length)
  (some (F ⟨vB (nb p.x),vB (nb p.y),vB (nb p.z)⟩ ⟨vB (nb q.x),vB (nb q.y),vB (nb q.z)⟩ (vB (nb d)))) none=_
 rw [jH h.x,jH h.y,jH h.z,jH k.x,jH k.y,jH k.z,jH hd,fY,fY,fY,fY,fY,fY,fY]; rfl
theorem Lp {T:Type} {F:RP->Nat->Nat->T} {C:Nat->Bool} {args:List AV} {t:T} (h:Je F C args=some t):∃ p n d,args=[Ei p,eN n,eN d] /\ p.ok /\ (nb n).length <= 1048576 /\ C n=true /\ d < aJ /\ t=F p n d:=by
 unfold Je at h;split at h
 ·obtain ⟨h1,h2⟩:=cC h;simp only [aX] at h1;obtain ⟨x,rfl,rfl,hx,ex⟩:=jG h1.1.1.1;obtain ⟨y,rfl,rfl,hy,ey⟩:=jG h1.1.1.2.1;obtain ⟨z,rfl,rfl,hz,ez⟩:=jG h1.1.1.2.2;obtain ⟨n,rfl,rfl,hn,en⟩:=oY h1.1.2.1;obtain ⟨d,rfl,rfl,hd,ed⟩:=jG h1.2;have hc:=h1.1.2.2;rw [en] at hc;rw [ex,ey,ez,en,ed] at h2;exact ⟨⟨x,y,z⟩,n,d,rfl,⟨hx,hy,hz⟩,hn,hc,hd,h2.symm⟩
 ·cases h
theorem YD {T:Type} (F:RP->Nat->Nat->T) (C:Nat->Bool) {p:RP} {n d:Nat} (h:p.ok) (hn:(nb n).length <= 1048576) (hc:C n=true) (hd:d < aJ):Je F C [Ei p,eN n,eN d]=some (F p n d):=by
 show cond (k8 (nb p.x) (nb p.x).length && (k8 (nb p.y) (nb p.y).length && k8 (nb p.z) (nb p.z).length) && (Lm (nb n) (nb n).length && C (vB (nb n))) && k8 (nb d) (nb d).length)
  (some (F ⟨vB (nb p.x),vB (nb p.y),vB (nb p.z)⟩ (vB (nb n)) (vB (nb d)))) none=_
 rw [jH h.x,jH h.y,jH h.z,nP hn,jH hd,fY,fY,fY,fY,fY,hc]; rfl
def Od:Summ:={ T:=RP,run:=Gr qB,enc:=λ _=>.c (.mix [.pl (.raw (.slice none 0 0)),.dat (.ints .i64 [1]) 1 1,.dat (.ints .i64 [1]) 1 1]) }
abbrev aVR:Cg:=aPI 
theorem aMS:CfOk prog aVR.c:=gk <| aK
theorem aAs:CallOk prog 47 Od:=by
 refine i4 aMS Tryz.func47 ?_;intro args t ht;unfold Od Gr at ht;simp only at ht;split at ht
 ·exact aVM ..
 ·cases ht
theorem Rs:CallOk prog 47 aGB:=by
 intro args t ht w X vs hX hargs;have ht':Gr qB args=some t:=ht;have e:t=qB:=by
  unfold Gr at ht';split at ht'
  ·exact (dG ht').symm
  ·cases ht'
 subst e;have key:∀ (w:World) (v:Value),AVR w (P0 X) (Od.enc qB) v->AVR w (P0 X) (Ei qB) v /\ (Ei qB).refs=[]:=by
  intro w v h;refine ⟨?_,rfl⟩;obtain ⟨cs,e,hl,hc⟩:=h;refine ⟨cs,e,hl,λ i x v' hx hv=>?_⟩
  match i,hx with
  | 0,hx=>
   cases hx;have h0:SVR w (P0 X) (.pl (.raw (.slice none 0 0))) v':=hc 0 _ v' rfl hv;have h0':v'=.slice none 0 0:=h0.1;exact ⟨rfl,.inl ⟨rfl,h0'⟩⟩
  | 1,hx=>cases hx; exact hc 1 _ v' rfl hv
  | 2,hx=>cases hx; exact hc 2 _ v' rfl hv
 rcases aAs args qB ht w X vs hX hargs with ⟨v,w',hr,h1,h2,h3⟩ | ⟨hr,hc⟩
 ·exact .inl ⟨v,w',hr,(key w' v h1).1,(key w' v h1).2,h3⟩
 ·refine .inr ⟨hr,hc.mono λ e w' he=>?_⟩;obtain ⟨v,e1,h1,h2,h3⟩:=he;exact ⟨v,e1,(key w' v h1).1,(key w' v h1).2,h3⟩
theorem mP (n:Nat):n%aJ < aJ:=bK _ (by decide)
abbrev aVS:Cg:=aPJ (Nat) oN (λ t=>nb t) (λ t=>(nb t).length) (Nat) yY (λ t=>nb t) (λ t=>(nb t).length) (Nat) F7 (λ t=>nb t) (λ t=>(nb t).length)
theorem aMT:CfOk prog aVS.c:=gk <| aA tX <| aA DU <| aA Mo <| aK
theorem aGG:CallOk prog 101 aGA:=by
 refine i4 aMT Tryz.func101 ?_;intro args t ht;obtain ⟨p,q,d,rfl,hp,hq,hd,rfl⟩:=aAr (F:=Kf) ht;have m1:=bJ hp.z hq.z;have ha:=mP (p.z*q.z);unfold Kf;generalize p.z*q.z%aJ=a at *;have m2:=bJ ha ha;have hb:=mP (a*a);generalize a*a%aJ=b at *;have m3:=bJ hp.x hq.x;have hxx:=mP (p.x*q.x);generalize p.x*q.x%aJ=xx at *;have m4:=bJ hp.y hq.y;have hyy:=mP (p.y*q.y);generalize p.y*q.y%aJ=yy at *;have m5:=bJ hxx hyy;have hxy:=mP (xx*yy);generalize xx*yy%aJ=xy at *;have m6:=bJ hd hxy;have he:=mP (d*xy);generalize d*xy%aJ=e at *;have s1:=nI hb he;have hf:=mP (b+aJ - e);generalize (b+aJ - e)%aJ=f at *;have a1:=vZ hb he;have hg:=mP (b+e);generalize (b+e)%aJ=g at *;have m7:=bJ ha hf;have h7:=mP (a*f);generalize a*f%aJ=af at *;have m8:=bJ hp.x hq.y;have h8:=mP (p.x*q.y);generalize p.x*q.y%aJ=c1 at *;have m9:=bJ hp.y hq.x;have h9:=mP (p.y*q.x);generalize p.y*q.x%aJ=c2 at *;have a2:=vZ h8 h9;have hc:=mP (c1+c2);generalize (c1+c2)%aJ=c at *;have m10:=bJ h7 hc;have m11:=bJ ha hg;have h11:=mP (a*g);generalize a*g%aJ=ag at *;have a3:=vZ hyy hxx;have hs:=mP (yy+xx);generalize (yy+xx)%aJ=s at *;have m12:=bJ h11 hs;have m13:=bJ hf hg;generalize af*c%aJ=X at *;generalize ag*s%aJ=Y at *;generalize f*g%aJ=Z at *;refine (aVN ..).trans ?_;simp only [eN] at m1 m2 m3 m4 m5 m6 s1 a1 m7 m8 m9 a2 m10 m11 a3 m12 m13;rw [m1,aC,m2,aC,m3,aC,m4,aC,m5,aC,m6,aC,s1,aC,a1,aC,m7,aC,m8,aC,m9,aC,a2,aC,m10,aC,m11,aC,a3,aC,m12,aC,m13,aC];rfl
theorem Lq {p q:RP} {d:Nat} (h:p.ok) (k:q.ok) (hd:d < aJ):Oa [Ei p,Ei q,eN d]=some (Kf p q d):=aMR Kf h k hd
theorem EJ (p q:RP) (d:Nat):(Kf p q d).ok:=⟨mP _,mP _,mP _⟩
theorem EK:qB.ok:=⟨by decide,by decide,by decide⟩
set_option maxRecDepth 4000
abbrev Ui:Cg:=Rp (RP) AY (λ t=>nb t.x) (λ t=>(nb t.x).length) (λ t=>nb t.y) (λ t=>(nb t.y).length) (λ t=>nb t.z) (λ t=>(nb t.z).length) (Nat) BO (λ t=>↑t) (RP) Oa (λ t=>nb t.x) (λ t=>(nb t.x).length) (λ t=>nb t.y) (λ t=>(nb t.y).length) (λ t=>nb t.z) (λ t=>(nb t.z).length) (Nat) pM (λ t=>↑t)
theorem aMU:CfOk prog Ui.c:=gk <| aA Rs <| aA LU <| aA aGG <| aA BD <| aK
theorem aGH (p:RP) (d:Nat) (c:RP) (b:Bool):(GU p d c b).ok:=by
 cases b
 ·exact EJ _ _ _
 ·exact EJ _ _ _
theorem Rt (p:RP) (d:Nat):∀ (l:List Bool) (c:RP),c.ok->(l.foldl (GU p d) c).ok
 | [],_,hc=>hc
 | b :: r,c,hc=>Rt p d r _ (aGH p d c b)
theorem aAt (p:RP) (n d:Nat):(yJ p n d).ok:=Rt p d _ _ EK
theorem aMV {p:RP} {n d:Nat} (hp:p.ok) (hn:(nb n).length <= 64) (hd:d < aJ) (fu:Nat):∀ (k m:Nat) (c:RP),k < m->k <= 512->c.ok ->
  eS prog Ui fu Ob (Oc _ AY (λ t=>nb t.x) (λ t=>(nb t.x).length) (λ t=>nb t.y) (λ t=>(nb t.y).length) (λ t=>nb t.z) (λ t=>(nb t.z).length) _ BO (λ t=>(t:Int)) _ Oa (λ t=>nb t.x) (λ t=>(nb t.x).length) (λ t=>nb t.y) (λ t=>(nb t.y).length) (λ t=>nb t.z) (λ t=>(nb t.z).length) _ pM (λ t=>(t:Int)) fu) m
   (some (FY (nb n) (nb n).length (nb d) (nb d).length ((k:Int) - 1) (nb p.x) (nb p.x).length (nb p.y) (nb p.y).length (nb p.z) (nb p.z).length (nb c.x) (nb c.x).length (nb c.y) (nb c.y).length (nb c.z) (nb c.z).length))=some (Ei ((fT n k).foldl (GU p d) c)):=by
 intro k
 induction k with
 | zero=>
  intro m c hm _ hc;obtain ⟨m,rfl⟩:=aP (by omega:m ≠ 0);rw [aF,aGD,aH (by omega),aD,aR,aGE];rfl
 | succ k ih=>
  intro m c hm hk hc;obtain ⟨m,rfl⟩:=aP (by omega:m ≠ 0);have a1:=Lq hc hc hd;have h1:=EJ c c d;have b:=tD (x:=n) (i:=(k:Int)) (by omega) (by omega) (by omega);have hb:mI n (k:Int)=n / 2 ^ k%2:=by rw [mI,aH (by omega),aD,bE]
  rw [hb] at b;have a2:=Lq h1 hp hd;have key:∀ c':RP,c'.ok->c'=GU p d c (Nat.beq (n / 2 ^ k%2) 1)->eS prog Ui fu Ob (Oc _ AY (λ t=>nb t.x) (λ t=>(nb t.x).length) (λ t=>nb t.y) (λ t=>(nb t.y).length) (λ t=>nb t.z) (λ t=>(nb t.z).length) _ BO (λ t=>(t:Int)) _ Oa (λ t=>nb t.x) (λ t=>(nb t.x).length) (λ t=>nb t.y) (λ t=>(nb t.y).length) (λ t=>nb t.z) (λ t=>(nb t.z).length) _ pM (λ t=>(t:Int)) fu) m
   (some (FY (nb n) (nb n).length (nb d) (nb d).length ((k:Int) - 1) (nb p.x) (nb p.x).length (nb p.y) (nb p.y).length (nb p.z) (nb p.z).length (nb c'.x) (nb c'.x).length (nb c'.y) (nb c'.y).length (nb c'.z) (nb c'.z).length))=some (Ei ((fT n (k+1)).foldl (GU p d) c)):=by
   intro c' hc' e;rw [ih m c' (by omega) (by omega) hc',e];rfl
  have e:((k+1:Nat):Int) - 1=(k:Int):=by omega
  have ew:i64.wrap ((k:Int) - 1)=(k:Int) - 1:=bY (by omega) (by omega);have hbt:n / 2 ^ k%2 < 2:=bK _ (by omega);generalize n / 2 ^ k%2=bb at *;rw [e,aF,aGD,aE (by omega),aB];simp only [Ei,eN] at a1 a2 b;rw [a1,aC,b,aC]
  match bb,hbt with
  | 0,_=>
   rw [aH (by omega),aD,ew];exact key _ h1 rfl
  | 1,_=>
   rw [aE (by omega),aB,a2,aC,ew];exact key _ (EJ _ _ _) rfl
theorem bAr {n:Nat} (h:n < lG):bl n <= 512:=OJ n 8 (Nat.lt_of_lt_of_eq h (by decide +kernel))
theorem aAu:CallOk prog 52 X9:=by
 refine aZ (fu:=λ _=>600) aMU Tryz.func52 ?_;intro args t ht;obtain ⟨p,n,d,rfl,hp,_,hc,hd,rfl⟩:=Lp (F:=yJ) (C:=λ n=>Nat.blt n lG) ht;have hn:n < lG:=dL.mp hc;have hl:(nb n).length <= 64:=dA hn;have l:=Ix (x:=n) (by omega);have hb:=bAr hn;simp only [eN] at l;refine (aVP ..).trans ?_;rw [show AY []=some qB from rfl,aC,l,aC,bY (by omega) (by omega)];exact aMV hp hl hd 600 (bl n) 600 qB (by omega) (by omega) EK
theorem Uj {p:RP} {n d:Nat} (h:p.ok) (hn:n < lG) (hd:d < aJ):YA [Ei p,eN n,eN d]=some (yJ p n d) :=
 YD yJ (λ n=>Nat.blt n lG) h (cK (dA (k:=64) hn) (by decide)) (dL.mpr hn) hd
abbrev aVT:Cg:=aPK (Nat) Ku (λ t=>nb t) (λ t=>(nb t).length) (Nat) oN (λ t=>nb t) (λ t=>(nb t).length)
theorem aMW:CfOk prog aVT.c:=gk <| aA Og <| aA tX <| aK
theorem aAv:CallOk prog 98 YB:=by
 refine i4 aMW Tryz.func98 ?_;intro args t ht;obtain ⟨p,rfl,hp,rfl⟩:=Rr (F:=Bl) ht;have i:=Li hp.z;have hi:Bk p.z < aJ:=mP _;have e:Bl p=(p.x*Bk p.z%aJ,p.y*Bk p.z%aJ):=rfl;rw [e];generalize Bk p.z=zi at *;have m1:=bJ hp.x hi;have m2:=bJ hp.y hi;simp only [eN] at i m1 m2;refine (aVQ ..).trans ?_;rw [i,aC,m1,aC,m2,aC];rfl
theorem Uk {p:RP} (h:p.ok):YC [Ei p]=some (Bl p):=aGF Bl h
abbrev aVU:Cg:=aPG 
theorem aMX:CfOk prog aVU.c:=gk <| aK
theorem Ru:CallOk prog 74 aGC:=by
 refine i4 aMX Tryz.func74 ?_;intro args t ht;obtain ⟨p,rfl,hp,rfl⟩:=Ai (F:=λ p=>p) ht;exact aVK ..
theorem FZ {p:Pt} (h:qF p):Uh [eP p]=some p:=Jy (λ p=>p) h
abbrev aVV:Cg:=aPH 
theorem aMY:CfOk prog aVV.c:=gk <| aK
theorem aGI:CallOk prog 120 aYZ:=by
 refine i4 aMY Tryz.func120 ?_;intro args t ht;obtain ⟨x,y,z,w,rfl,_,_,_,_,rfl⟩:=SQ (F:=λ x y z t=>(⟨x,y,z,t⟩:Pt)) ht;exact aVL ..
theorem YE {x y z t:Fe} (h1:cN x) (h2:cN y) (h3:cN z) (h4:cN t):aMQ [eF x,eF y,eF z,eF t]=some ⟨x,y,z,t⟩:=aHm (λ x y z t=>(⟨x,y,z,t⟩:Pt)) h1 h2 h3 h4
end
end Go.Eng
