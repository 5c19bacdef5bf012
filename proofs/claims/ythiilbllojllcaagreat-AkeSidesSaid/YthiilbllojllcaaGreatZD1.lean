import Derived.Test.YthiilbllojllcaaGreatZF8
import Derived.Test.YthiilbllojllcaaGreatZG3
namespace Go.Eng
open Go.IntKind (u64 i64 u8)
noncomputable section
open Go Go.Proofs
set_option linter.all false
structure RP where
 x:Nat
 y:Nat
 z:Nat
def HC (p:RP):AV:=.c (.mix [.dat (.ints .i64 (nb p.x)) (nb p.x).length 1,.dat (.ints .i64 (nb p.y)) (nb p.y).length 1,.dat (.ints .i64 (nb p.z)) (nb p.z).length 1])
def mX (a:List Int) (n:Nat):Bool:=NT a n && bP (vB a)
def Vt {T:Type} (F:RP->T):FA T
 | [.c (.mix [.dat (.ints .i64 a) n 1,.dat (.ints .i64 b) m 1,.dat (.ints .i64 c) k 1])]=>cond (mX a n && (mX b m && mX c k)) (some (F ⟨vB a,vB b,vB c⟩)) none
 | _=>none
def Rz {T:Type} (F:RP->RP->Nat->T):FA T
 | [.c (.mix [.dat (.ints .i64 a) n 1,.dat (.ints .i64 b) m 1,.dat (.ints .i64 c) k 1]),.c (.mix [.dat (.ints .i64 a') n' 1,.dat (.ints .i64 b') m' 1,.dat (.ints .i64 c') k' 1]),.c (.s (.dat (.ints .i64 d) j 1))]=>
  cond (mX a n && (mX b m && mX c k) && (mX a' n' && (mX b' m' && mX c' k')) && mX d j) (some (F ⟨vB a,vB b,vB c⟩ ⟨vB a',vB b',vB c'⟩ (vB d))) none
 | _=>none
def MX {T:Type} (F:RP->Nat->Nat->T) (C:Nat->Bool):FA T
 | [.c (.mix [.dat (.ints .i64 a) n 1,.dat (.ints .i64 b) m 1,.dat (.ints .i64 c) k 1]),.c (.s (.dat (.ints .i64 e) i 1)),.c (.s (.dat (.ints .i64 d) j 1))]=>
  cond (mX a n && (mX b m && mX c k) && (NT e i && C (vB e)) && mX d j) (some (F ⟨vB a,vB b,vB c⟩ (vB e) (vB d))) none
 | _=>none
def MY (p q:RP) (d:Nat):RP :=
 ⟨p.z * q.z % aK * ((p.z * q.z % aK * (p.z * q.z % aK) % aK + aK - d * (p.x * q.x % aK * (p.y * q.y % aK) % aK) % aK) % aK) % aK * ((p.x * q.y % aK + p.y * q.x % aK) % aK) % aK,
  p.z * q.z % aK * ((p.z * q.z % aK * (p.z * q.z % aK) % aK + d * (p.x * q.x % aK * (p.y * q.y % aK) % aK) % aK) % aK) % aK * ((p.y * q.y % aK + p.x * q.x % aK) % aK) % aK,
  (p.z * q.z % aK * (p.z * q.z % aK) % aK + aK - d * (p.x * q.x % aK * (p.y * q.y % aK) % aK) % aK) % aK * ((p.z * q.z % aK * (p.z * q.z % aK) % aK + d * (p.x * q.x % aK * (p.y * q.y % aK) % aK) % aK) % aK) % aK⟩
def aLM:Summ:={ T:=RP,run:=Rz MY,enc:=HC }
def SA:FA RP:=aLM.run
def tA:RP:=⟨0,1,1⟩
def aLN:Summ:={ T:=RP,run:=EP tA,enc:=HC }
def CK:FA RP:=aLN.run
def D8 (p:RP) (d:Nat) (c:RP) (b:Bool):RP:=cond b (MY (MY c c d) p d) (MY c c d)
def CL (p:RP) (n d:Nat):RP:=(cU n (bl n)).foldl (D8 p d) tA
def aCv:Summ:={ T:=RP,run:=MX CL λ n=>Nat.blt n i9,enc:=HC }
def aCw:FA RP:=aCv.run
def Eg (p:RP):Nat × Nat:=(p.x*(p.z ^ (aK - 2)%aK)%aK,p.y*(p.z ^ (aK - 2)%aK)%aK)
def eNN (t:Nat × Nat):AV:=.tup [.s (.dat (.ints .i64 (nb t.1)) (nb t.1).length 1),.s (.dat (.ints .i64 (nb t.2)) (nb t.2).length 1)]
def aCx:Summ:={ T:=Nat × Nat,run:=Vt Eg,enc:=eNN }
def aCy:FA (Nat × Nat):=aCx.run
def ePF (p:Pt):AV:=.tup [.s (.pl (.agg (.ints .u64 [(p.x.a:Int),p.x.b,p.x.c,p.x.d,p.x.e]) 5)),.s (.pl (.agg (.ints .u64 [(p.y.a:Int),p.y.b,p.y.c,p.y.d,p.y.e]) 5)),.s (.pl (.agg (.ints .u64 [(p.z.a:Int),p.z.b,p.z.c,p.z.d,p.z.e]) 5)),.s (.pl (.agg (.ints .u64 [(p.t.a:Int),p.t.b,p.t.c,p.t.d,p.t.e]) 5))]
def aLO:Summ:={ T:=Pt,run:=A3 λ p=>p,enc:=ePF }
def ZF:FA Pt:=aLO.run
def bHC:Summ:={ T:=Pt,run:=OJ λ x y z t=>⟨x,y,z,t⟩,enc:=eP }
def aS4:FA Pt:=bHC.run
def aXQ:Cg:=⟨⟨cV [],[],cX⟩,[]⟩
theorem bEs (fu:Nat) (a b c d e f g h i j k l m n o p q r s t:Int):aS prog Tryz.f27 aXQ fu [aU [a,b,c,d,e,f,g,h,i,j,k,l,m,n,o,p,q,r,s,t] 20]=some (AV.tup [.s (.pl (.agg (.ints .u64 (List.take 5 (List.drop 0 [a,b,c,d,e,f,g,h,i,j,k,l,m,n,o,p,q,r,s,t]))) 5)),.s (.pl (.agg (.ints .u64 (List.take 5 (List.drop 5 [a,b,c,d,e,f,g,h,i,j,k,l,m,n,o,p,q,r,s,t]))) 5)),.s (.pl (.agg (.ints .u64 (List.take 5 (List.drop 10 [a,b,c,d,e,f,g,h,i,j,k,l,m,n,o,p,q,r,s,t]))) 5)),.s (.pl (.agg (.ints .u64 (List.take 5 (List.drop 15 [a,b,c,d,e,f,g,h,i,j,k,l,m,n,o,p,q,r,s,t]))) 5))]):=by kernel_rfl
def aXR:Cg:=⟨⟨cV [],[],cX⟩,[]⟩
theorem bEt (fu:Nat) (a b c d e f g h i j k l m n o p q r s t:Int):aS prog Tryz.f166 aXR fu [aU [a,b,c,d,e] 5,aU [f,g,h,i,j] 5,aU [k,l,m,n,o] 5,aU [p,q,r,s,t] 5]=some (AV.agg (.ints .u64 ([a,b,c,d,e]++([f,g,h,i,j]++([k,l,m,n,o]++[p,q,r,s,t])))) 20):=by kernel_rfl
def aXS:Cg:=⟨⟨cV [],[],cX⟩,[]⟩
theorem bEu (fu:Nat):aS prog Tryz.f97 aXS fu []=some (AV.c (.mix [.pl (.raw (Value.slice none 0 0)),dI [1] 1,dI [1] 1])):=by kernel_rfl
section
variable (T0:Type) (R0:FA T0) (aG:T0->List Int) (aO:T0->Nat) (T1:Type) (R1:FA T1) (aM:T1->List Int) (bK:T1->Nat) (T2:Type) (R2:FA T2) (bE:T2->List Int) (bU:T2->Nat)
def aXT:Cg:=⟨⟨cV [(91,⟨R0,λ t=>AV.s (dI (aG t) (aO t))⟩),(92,⟨R1,λ t=>AV.s (dI (aM t) (bK t))⟩),(98,⟨R2,λ t=>AV.s (dI (bE t) (bU t))⟩)],[],cX⟩,[]⟩
theorem bEv (fu:Nat) (p q:RP) (d:Nat):aS prog Tryz.f141 (aXT T0 R0 aG aO T1 R1 aM bK T2 R2 bE bU) fu [HC p,HC q,eN d]=(R0 [.s (dI (nb p.z) (nb p.z).length),.s (dI (nb q.z) (nb q.z).length)]).bind λ t=>(R0 [.s (dI (aG t) (aO t)),.s (dI (aG t) (aO t))]).bind λ bY=>(R0 [.s (dI (nb p.x) (nb p.x).length),.s (dI (nb q.x) (nb q.x).length)]).bind λ cJ=>(R0 [.s (dI (nb p.y) (nb p.y).length),.s (dI (nb q.y) (nb q.y).length)]).bind λ fF=>(R0 [.s (dI (aG cJ) (aO cJ)),.s (dI (aG fF) (aO fF))]).bind λ gA=>(R0 [.s (dI (nb d) (nb d).length),.s (dI (aG gA) (aO gA))]).bind λ gC=>(R1 [.s (dI (aG bY) (aO bY)),.s (dI (aG gC) (aO gC))]).bind λ jJ=>(R2 [.s (dI (aG bY) (aO bY)),.s (dI (aG gC) (aO gC))]).bind λ nR=>(R0 [.s (dI (aG t) (aO t)),.s (dI (aM jJ) (bK jJ))]).bind λ nQ=>(R0 [.s (dI (nb p.x) (nb p.x).length),.s (dI (nb q.y) (nb q.y).length)]).bind λ qZ=>(R0 [.s (dI (nb p.y) (nb p.y).length),.s (dI (nb q.x) (nb q.x).length)]).bind λ iJ=>(R2 [.s (dI (aG qZ) (aO qZ)),.s (dI (aG iJ) (aO iJ))]).bind λ i0=>(R0 [.s (dI (aG nQ) (aO nQ)),.s (dI (bE i0) (bU i0))]).bind λ kK=>(R0 [.s (dI (aG t) (aO t)),.s (dI (bE nR) (bU nR))]).bind λ t=>(R2 [.s (dI (aG fF) (aO fF)),.s (dI (aG cJ) (aO cJ))]).bind λ gQ=>(R0 [.s (dI (aG t) (aO t)),.s (dI (bE gQ) (bU gQ))]).bind λ t=>(R0 [.s (dI (aM jJ) (bK jJ)),.s (dI (bE nR) (bU nR))]).bind λ i8=>some (AV.c (.mix [dI (aG kK) (aO kK),dI (aG t) (aO t),dI (aG i8) (aO i8)])):=by kernel_rfl
end
section
variable (T0:Type) (R0:FA T0) (aG:T0->List Int) (aO:T0->Nat) (cE:T0->List Int) (cI:T0->Nat) (cP:T0->List Int) (Wq:T0->Nat) (T1:Type) (R1:FA T1) (aM:T1->Int) (T2:Type) (R2:FA T2) (bE:T2->List Int) (bU:T2->Nat) (fD:T2->List Int) (fJ:T2->Nat) (fM:T2->List Int) (f2f:T2->Nat) (T3:Type) (R3:FA T3) (bS:T3->Int)
def Vu:Cg:=⟨⟨cV [(97,⟨R0,λ t=>AV.c (.mix [dI (aG t) (aO t),dI (cE t) (cI t),dI (cP t) (Wq t)])⟩),(140,⟨R1,λ t=>AV.int .i64 (aM t)⟩),(141,⟨R2,λ t=>AV.c (.mix [dI (bE t) (bU t),dI (fD t) (fJ t),dI (fM t) (f2f t)])⟩),(47,⟨R3,λ t=>AV.int .i64 (bS t)⟩)],[],cX⟩,[(4,[1,2,3,6,7,8],[6,7])]⟩
def Hy (x1:List Int) (n1:Nat) (x2:List Int) (n2:Nat) (v8:Int) (I5:List Int) (n_0_0:Nat) (I6:List Int) (n_0_1:Nat) (I7:List Int) (n_0_2:Nat) (I8:List Int) (n_2_0:Nat) (I9:List Int) (n_2_1:Nat) (JA:List Int) (n_2_2:Nat):St:={ tm:=[(1,.s (dI x1 n1)),(2,.s (dI x2 n2)),(3,.s (.ptr 0 0 3)),(6,.s (.ptr 1 0 3)),(7,.s (.ptr 2 0 3)),(8,.int .i64 v8)],hp:=[(0,{ ty:=92,n:=3,row:=Row.mix [dI I5 n_0_0,dI I6 n_0_1,dI I7 n_0_2] }),(1,{ ty:=92,n:=3,row:=Row.mix [.pl (.raw (Value.slice none 0 0)),.pl (.raw (Value.slice none 0 0)),.pl (.raw (Value.slice none 0 0))] }),(2,{ ty:=92,n:=3,row:=Row.mix [dI I8 n_2_0,dI I9 n_2_1,dI JA n_2_2] })],nx:=3,sz:=30 }
def SB:Code:=cN (bN [1,1,0,1,2] (bB Tryz.f102))
def SC (fu:Nat):=mD prog (Vu T0 R0 aG aO cE cI cP Wq T1 R1 aM T2 R2 bE bU fD fJ fM f2f T3 R3 bS) fu [1,1,0,1,2] (bB Tryz.f102) (gI prog Tryz.f102)
abbrev bEw (fu:Nat) (x1:List Int) (n1:Nat) (x2:List Int) (n2:Nat) (v8:Int) (I5:List Int) (n_0_0:Nat) (I6:List Int) (n_0_1:Nat) (I7:List Int) (n_0_2:Nat) (I8:List Int) (n_2_0:Nat) (I9:List Int) (n_2_1:Nat) (JA:List Int) (n_2_2:Nat):=eV prog (Vu T0 R0 aG aO cE cI cP Wq T1 R1 aM T2 R2 bE bU fD fJ fM f2f T3 R3 bS) fu SB (SC T0 R0 aG aO cE cI cP Wq T1 R1 aM T2 R2 bE bU fD fJ fM f2f T3 R3 bS fu ) fu (some (Hy x1 n1 x2 n2 v8 I5 n_0_0 I6 n_0_1 I7 n_0_2 I8 n_2_0 I9 n_2_1 JA n_2_2))
theorem bEx (fu:Nat) (p:RP) (n d:Nat):aS prog Tryz.f102 (Vu T0 R0 aG aO cE cI cP Wq T1 R1 aM T2 R2 bE bU fD fJ fM f2f T3 R3 bS) fu [HC p,eN n,eN d]=(R0 []).bind λ t=>(R1 [.s (dI (nb n) (nb n).length)]).bind λ bY=>bEw T0 R0 aG aO cE cI cP Wq T1 R1 aM T2 R2 bE bU fD fJ fM f2f T3 R3 bS fu (nb n) (nb n).length (nb d) (nb d).length (i64.wrap (aM bY - 1)) (nb p.x) (nb p.x).length (nb p.y) (nb p.y).length (nb p.z) (nb p.z).length (aG t) (aO t) (cE t) (cI t) (cP t) (Wq t):=by kernel_rfl
def Vv (aDP:List Int) (n_1_0:Nat) (aDQ:List Int) (n_1_1:Nat) (aDR:List Int) (n_1_2:Nat):St:={ tm:=[(6,.s (.ptr 0 0 3)),(7,.s (.ptr 1 0 3))],hp:=[(0,{ ty:=92,n:=3,row:=Row.mix [.pl (.raw (Value.slice none 0 0)),.pl (.raw (Value.slice none 0 0)),.pl (.raw (Value.slice none 0 0))] }),(1,{ ty:=92,n:=3,row:=Row.mix [dI aDP n_1_0,dI aDQ n_1_1,dI aDR n_1_2] })],nx:=2,sz:=30 }
theorem aLP {β:Type} (fu:Nat) (G:FG β) (H:FH β) (x1:List Int) (n1:Nat) (x2:List Int) (n2:Nat) (v8:Int) (I5:List Int) (n_0_0:Nat) (I6:List Int) (n_0_1:Nat) (I7:List Int) (n_0_2:Nat) (I8:List Int) (n_2_0:Nat) (I9:List Int) (n_2_1:Nat) (JA:List Int) (n_2_2:Nat):fV prog (Vu T0 R0 aG aO cE cI cP Wq T1 R1 aM T2 R2 bE bU fD fJ fM f2f T3 R3 bS) fu SB G H (Hy x1 n1 x2 n2 v8 I5 n_0_0 I6 n_0_1 I7 n_0_2 I8 n_2_0 I9 n_2_1 JA n_2_2)=bif decide (0 <= v8) then (R2 [.c (.mix [dI I8 n_2_0,dI I9 n_2_1,dI JA n_2_2]),.c (.mix [dI I8 n_2_0,dI I9 n_2_1,dI JA n_2_2]),.s (dI x2 n2)]).bind λ t=>(R3 [.s (dI x1 n1),.int .i64 v8]).bind λ bY=>bif decide (bS bY=1) then (R2 [.c (.mix [dI (bE t) (bU t),dI (fD t) (fJ t),dI (fM t) (f2f t)]),.c (.mix [dI I5 n_0_0,dI I6 n_0_1,dI I7 n_0_2]),.s (dI x2 n2)]).bind λ t=>G (some (Hy x1 n1 x2 n2 (i64.wrap (v8 - 1)) I5 n_0_0 I6 n_0_1 I7 n_0_2 (bE t) (bU t) (fD t) (fJ t) (fM t) (f2f t))) else G (some (Hy x1 n1 x2 n2 (i64.wrap (v8 - 1)) I5 n_0_0 I6 n_0_1 I7 n_0_2 (bE t) (bU t) (fD t) (fJ t) (fM t) (f2f t))) else H (Ex.exit 0) (some (Vv I8 n_2_0 I9 n_2_1 JA n_2_2)):=by kernel_rfl
theorem aLQ (fu:Nat) (aDP:List Int) (n_1_0:Nat) (aDQ:List Int) (n_1_1:Nat) (aDR:List Int) (n_1_2:Nat):SC T0 R0 aG aO cE cI cP Wq T1 R1 aM T2 R2 bE bU fD fJ fM f2f T3 R3 bS fu  (Ex.exit 0) (Vv aDP n_1_0 aDQ n_1_1 aDR n_1_2)=some (AV.c (.mix [dI aDP n_1_0,dI aDQ n_1_1,dI aDR n_1_2])):=by kernel_rfl
end
section
variable (T0:Type) (R0:FA T0) (aG:T0->List Int) (aO:T0->Nat) (T1:Type) (R1:FA T1) (aM:T1->List Int) (bK:T1->Nat)
def aXU:Cg:=⟨⟨cV [(94,⟨R0,λ t=>AV.s (dI (aG t) (aO t))⟩),(91,⟨R1,λ t=>AV.s (dI (aM t) (bK t))⟩)],[],cX⟩,[]⟩
theorem bEy (fu:Nat) (p:RP):aS prog Tryz.f138 (aXU T0 R0 aG aO T1 R1 aM bK) fu [HC p]=(R0 [.s (dI (nb p.z) (nb p.z).length)]).bind λ t=>(R1 [.s (dI (nb p.x) (nb p.x).length),.s (dI (aG t) (aO t))]).bind λ bY=>(R1 [.s (dI (nb p.y) (nb p.y).length),.s (dI (aG t) (aO t))]).bind λ t=>some (AV.tup [.s (dI (aM bY) (bK bY)),.s (dI (aM t) (bK t))]):=by kernel_rfl
end
set_option maxRecDepth 4000
theorem CallOk.conv {P:Program} {f:FuncId} {T:Type} {R:FA T} {e1 e2:T->AV} (hA:CallOk P f ⟨R,e1⟩)
  (h:∀ (t:T) (w:World) (X:Nat->Prop) (v:Value),AVR w (P0 X) (e1 t) v->AVR w (P0 X) (e2 t) v /\ (e2 t).refs=[]):CallOk P f ⟨R,e2⟩:=by
 intro args t ht w X vs hX hargs;rcases hA args t ht w X vs hX hargs with ⟨v,w',hr,h1,h2,h3⟩ | ⟨hr,hc⟩
 ·have:=h t w' X v h1;exact .inl ⟨v,w',hr,this.1,this.2,h3⟩
 ·refine .inr ⟨hr,hc.mono λ e w' he=>?_⟩;obtain ⟨v,e1,h1,h2,h3⟩:=he;have:=h t w' X v h1;exact ⟨v,e1,this.1,this.2,h3⟩
theorem k7 {a:List Int} {n:Nat} (h:mX a n=true):∃ x,a=nb x /\ n=(nb x).length /\ x < aK /\ vB a=x:=by
 unfold mX at h;rw [aW] at h;obtain ⟨x,h1,h2,_,h3⟩:=qE h.1;refine ⟨x,h1,h2,?_,h3⟩;have:=cY.mp h.2;rwa [h3] at this
theorem k8 {x:Nat} (h:x < aK):mX (nb x) (nb x).length=true:=by
 have l:=uF h;unfold mX bP;rw [oX (by omega),gN,cY.mpr h]; rfl
structure RP.ok (p:RP):Prop where
 x:p.x < aK
 y:p.y < aK
 z:p.z < aK
theorem Vw {T:Type} {F:RP->T} {args:List AV} {t:T} (h:Vt F args=some t):∃ p,args=[HC p] /\ p.ok /\ t=F p:=by
 unfold Vt at h;split at h
 ·obtain ⟨h1,h2⟩:=bO h;simp only [aW] at h1;obtain ⟨x,rfl,rfl,hx,ex⟩:=k7 h1.1;obtain ⟨y,rfl,rfl,hy,ey⟩:=k7 h1.2.1;obtain ⟨z,rfl,rfl,hz,ez⟩:=k7 h1.2.2;rw [ex,ey,ez] at h2;exact ⟨⟨x,y,z⟩,rfl,⟨hx,hy,hz⟩,h2.symm⟩
 ·cases h
theorem aLR {T:Type} (F:RP->T) {p:RP} (h:p.ok):Vt F [HC p]=some (F p):=by
 show cond (mX (nb p.x) (nb p.x).length && (mX (nb p.y) (nb p.y).length && mX (nb p.z) (nb p.z).length)) (some (F ⟨vB (nb p.x),vB (nb p.y),vB (nb p.z)⟩)) none=_;rw [k8 h.x,k8 h.y,k8 h.z,gN,gN,gN]; rfl
theorem aFC {T:Type} {F:RP->RP->Nat->T} {args:List AV} {t:T} (h:Rz F args=some t):∃ p q d,args=[HC p,HC q,eN d] /\ p.ok /\ q.ok /\ d < aK /\ t=F p q d:=by
 unfold Rz at h;split at h
 ·obtain ⟨h1,h2⟩:=bO h;simp only [aW] at h1;obtain ⟨x,rfl,rfl,hx,ex⟩:=k7 h1.1.1.1;obtain ⟨y,rfl,rfl,hy,ey⟩:=k7 h1.1.1.2.1;obtain ⟨z,rfl,rfl,hz,ez⟩:=k7 h1.1.1.2.2;obtain ⟨x',rfl,rfl,hx',ex'⟩:=k7 h1.1.2.1;obtain ⟨y',rfl,rfl,hy',ey'⟩:=k7 h1.1.2.2.1;obtain ⟨z',rfl,rfl,hz',ez'⟩:=k7 h1.1.2.2.2;obtain ⟨d,rfl,rfl,hd,ed⟩:=k7 h1.2;rw [ex,ey,ez,ex',ey',ez',ed] at h2;exact ⟨⟨x,y,z⟩,⟨x',y',z'⟩,d,rfl,⟨hx,hy,hz⟩,⟨hx',hy',hz'⟩,hd,h2.symm⟩
 ·cases h
theorem aS5 {T:Type} (F:RP->RP->Nat->T) {p q:RP} {d:Nat} (h:p.ok) (k:q.ok) (hd:d < aK):Rz F [HC p,HC q,eN d]=some (F p q d):=by
 show cond (mX (nb p.x) (nb p.x).length && (mX (nb p.y) (nb p.y).length && mX (nb p.z) (nb p.z).length) && (mX (nb q.x) (nb q.x).length && (mX (nb q.y) (nb q.y).length && mX (nb q.z) (nb q.z).length)) && mX (nb d) (nb d).length)
  (some (F ⟨vB (nb p.x),vB (nb p.y),vB (nb p.z)⟩ ⟨vB (nb q.x),vB (nb q.y),vB (nb q.z)⟩ (vB (nb d)))) none=_
 rw [k8 h.x,k8 h.y,k8 h.z,k8 k.x,k8 k.y,k8 k.z,k8 hd,gN,gN,gN,gN,gN,gN,gN]; rfl
theorem O2 {T:Type} {F:RP->Nat->Nat->T} {C:Nat->Bool} {args:List AV} {t:T} (h:MX F C args=some t):∃ p n d,args=[HC p,eN n,eN d] /\ p.ok /\ (nb n).length <= 1048576 /\ C n=true /\ d < aK /\ t=F p n d:=by
 unfold MX at h;split at h
 ·obtain ⟨h1,h2⟩:=bO h;simp only [aW] at h1;obtain ⟨x,rfl,rfl,hx,ex⟩:=k7 h1.1.1.1;obtain ⟨y,rfl,rfl,hy,ey⟩:=k7 h1.1.1.2.1;obtain ⟨z,rfl,rfl,hz,ez⟩:=k7 h1.1.1.2.2;obtain ⟨n,rfl,rfl,hn,en⟩:=qE h1.1.2.1;obtain ⟨d,rfl,rfl,hd,ed⟩:=k7 h1.2;have hc:=h1.1.2.2;rw [en] at hc;rw [ex,ey,ez,en,ed] at h2;exact ⟨⟨x,y,z⟩,n,d,rfl,⟨hx,hy,hz⟩,hn,hc,hd,h2.symm⟩
 ·cases h
theorem aCz {T:Type} (F:RP->Nat->Nat->T) (C:Nat->Bool) {p:RP} {n d:Nat} (h:p.ok) (hn:(nb n).length <= 1048576) (hc:C n=true) (hd:d < aK):MX F C [HC p,eN n,eN d]=some (F p n d):=by
 show cond (mX (nb p.x) (nb p.x).length && (mX (nb p.y) (nb p.y).length && mX (nb p.z) (nb p.z).length) && (NT (nb n) (nb n).length && C (vB (nb n))) && mX (nb d) (nb d).length)
  (some (F ⟨vB (nb p.x),vB (nb p.y),vB (nb p.z)⟩ (vB (nb n)) (vB (nb d)))) none=_
 rw [k8 h.x,k8 h.y,k8 h.z,oX hn,k8 hd,gN,gN,gN,gN,gN,hc]; rfl
def SD:Summ:={ T:=RP,run:=EP tA,enc:=λ _=>.c (.mix [.pl (.raw (.slice none 0 0)),.dat (.ints .i64 [1]) 1 1,.dat (.ints .i64 [1]) 1 1]) }
abbrev bEz:Cg:=aXS 
theorem aS6:CfOk prog bEz.c:=gk <| aH
theorem aFD:CallOk prog 97 SD:=by
 refine fO aS6 Tryz.func97 ?_;intro args t ht;unfold SD EP at ht;simp only at ht;split at ht
 ·exact bEu ..
 ·cases ht
theorem Vx:CallOk prog 97 aLN:=by
 intro args t ht w X vs hX hargs;have ht':EP tA args=some t:=ht;have e:t=tA:=by
  unfold EP at ht';split at ht'
  ·exact (nA ht').symm
  ·cases ht'
 subst e;have key:∀ (w:World) (v:Value),AVR w (P0 X) (SD.enc tA) v->AVR w (P0 X) (HC tA) v /\ (HC tA).refs=[]:=by
  intro w v h;refine ⟨?_,rfl⟩;obtain ⟨cs,e,hl,hc⟩:=h;refine ⟨cs,e,hl,λ i x v' hx hv=>?_⟩
  match i,hx with
  | 0,hx=>
   cases hx;have h0:SVR w (P0 X) (.pl (.raw (.slice none 0 0))) v':=hc 0 _ v' rfl hv;have h0':v'=.slice none 0 0:=h0.1;exact ⟨rfl,.inl ⟨rfl,h0'⟩⟩
  | 1,hx=>cases hx; exact hc 1 _ v' rfl hv
  | 2,hx=>cases hx; exact hc 2 _ v' rfl hv
 rcases aFD args tA ht w X vs hX hargs with ⟨v,w',hr,h1,h2,h3⟩ | ⟨hr,hc⟩
 ·exact .inl ⟨v,w',hr,(key w' v h1).1,(key w' v h1).2,h3⟩
 ·refine .inr ⟨hr,hc.mono λ e w' he=>?_⟩;obtain ⟨v,e1,h1,h2,h3⟩:=he;exact ⟨v,e1,(key w' v h1).1,(key w' v h1).2,h3⟩
theorem mP (n:Nat):n%aK < aK:=bH _ (by decide)
abbrev bEA:Cg:=aXT (Nat) qV (λ t=>nb t) (λ t=>(nb t).length) (Nat) Ay (λ t=>nb t) (λ t=>(nb t).length) (Nat) IL (λ t=>nb t) (λ t=>(nb t).length)
theorem aS7:CfOk prog bEA.c:=gk <| aA xN <| aA GC <| aA Qw <| aH
theorem aLS:CallOk prog 141 aLM:=by
 refine fO aS7 Tryz.func141 ?_;intro args t ht;obtain ⟨p,q,d,rfl,hp,hq,hd,rfl⟩:=aFC (F:=MY) ht;have m1:=bQ hp.z hq.z;have ha:=mP (p.z*q.z);unfold MY;generalize p.z*q.z%aK=a at *;have m2:=bQ ha ha;have hb:=mP (a*a);generalize a*a%aK=b at *;have m3:=bQ hp.x hq.x;have hxx:=mP (p.x*q.x);generalize p.x*q.x%aK=xx at *;have m4:=bQ hp.y hq.y;have hyy:=mP (p.y*q.y);generalize p.y*q.y%aK=yy at *;have m5:=bQ hxx hyy;have hxy:=mP (xx*yy);generalize xx*yy%aK=xy at *;have m6:=bQ hd hxy;have he:=mP (d*xy);generalize d*xy%aK=e at *;have s1:=pW hb he;have hf:=mP (b+aK - e);generalize (b+aK - e)%aK=f at *;have a1:=zJ hb he;have hg:=mP (b+e);generalize (b+e)%aK=g at *;have m7:=bQ ha hf;have h7:=mP (a*f);generalize a*f%aK=af at *;have m8:=bQ hp.x hq.y;have h8:=mP (p.x*q.y);generalize p.x*q.y%aK=c1 at *;have m9:=bQ hp.y hq.x;have h9:=mP (p.y*q.x);generalize p.y*q.x%aK=c2 at *;have a2:=zJ h8 h9;have hc:=mP (c1+c2);generalize (c1+c2)%aK=c at *;have m10:=bQ h7 hc;have m11:=bQ ha hg;have h11:=mP (a*g);generalize a*g%aK=ag at *;have a3:=zJ hyy hxx;have hs:=mP (yy+xx);generalize (yy+xx)%aK=s at *;have m12:=bQ h11 hs;have m13:=bQ hf hg;generalize af*c%aK=X at *;generalize ag*s%aK=Y at *;generalize f*g%aK=Z at *;refine (bEv ..).trans ?_;simp only [eN] at m1 m2 m3 m4 m5 m6 s1 a1 m7 m8 m9 a2 m10 m11 a3 m12 m13;rw [m1,aC,m2,aC,m3,aC,m4,aC,m5,aC,m6,aC,s1,aC,a1,aC,m7,aC,m8,aC,m9,aC,a2,aC,m10,aC,m11,aC,a3,aC,m12,aC,m13,aC];rfl
theorem O3 {p q:RP} {d:Nat} (h:p.ok) (k:q.ok) (hd:d < aK):SA [HC p,HC q,eN d]=some (MY p q d):=aS5 MY h k hd
theorem Ga (p q:RP) (d:Nat):(MY p q d).ok:=⟨mP _,mP _,mP _⟩
theorem Gb:tA.ok:=⟨by decide,by decide,by decide⟩
set_option maxRecDepth 4000
abbrev ZG:Cg:=Vu (RP) CK (λ t=>nb t.x) (λ t=>(nb t.x).length) (λ t=>nb t.y) (λ t=>(nb t.y).length) (λ t=>nb t.z) (λ t=>(nb t.z).length) (Nat) Cy (λ t=>↑t) (RP) SA (λ t=>nb t.x) (λ t=>(nb t.x).length) (λ t=>nb t.y) (λ t=>(nb t.y).length) (λ t=>nb t.z) (λ t=>(nb t.z).length) (Nat) rZ (λ t=>↑t)
theorem aS8:CfOk prog ZG.c:=gk <| aA Vx <| aA PY <| aA aLS <| aA DK <| aH
theorem aLT (p:RP) (d:Nat) (c:RP) (b:Bool):(D8 p d c b).ok:=by
 cases b
 ·exact Ga _ _ _
 ·exact Ga _ _ _
theorem Vy (p:RP) (d:Nat):∀ (l:List Bool) (c:RP),c.ok->(l.foldl (D8 p d) c).ok
 | [],_,hc=>hc
 | b :: r,c,hc=>Vy p d r _ (aLT p d c b)
theorem aFE (p:RP) (n d:Nat):(CL p n d).ok:=Vy p d _ _ Gb
theorem aS9 {p:RP} {n d:Nat} (hp:p.ok) (hn:(nb n).length <= 64) (hd:d < aK) (fu:Nat):∀ (k m:Nat) (c:RP),k < m->k <= 512->c.ok ->
  eV prog ZG fu SB (SC _ CK (λ t=>nb t.x) (λ t=>(nb t.x).length) (λ t=>nb t.y) (λ t=>(nb t.y).length) (λ t=>nb t.z) (λ t=>(nb t.z).length) _ Cy (λ t=>(t:Int)) _ SA (λ t=>nb t.x) (λ t=>(nb t.x).length) (λ t=>nb t.y) (λ t=>(nb t.y).length) (λ t=>nb t.z) (λ t=>(nb t.z).length) _ rZ (λ t=>(t:Int)) fu) m
   (some (Hy (nb n) (nb n).length (nb d) (nb d).length ((k:Int) - 1) (nb p.x) (nb p.x).length (nb p.y) (nb p.y).length (nb p.z) (nb p.z).length (nb c.x) (nb c.x).length (nb c.y) (nb c.y).length (nb c.z) (nb c.z).length))=some (HC ((cU n k).foldl (D8 p d) c)):=by
 intro k
 induction k with
 | zero=>
  intro m c hm _ hc;obtain ⟨m,rfl⟩:=aP (by omega:m ≠ 0);rw [aF,aLP,aJ (by omega),aE,aR,aLQ];rfl
 | succ k ih=>
  intro m c hm hk hc;obtain ⟨m,rfl⟩:=aP (by omega:m ≠ 0);have a1:=O3 hc hc hd;have h1:=Ga c c d;have b:=wR (x:=n) (i:=(k:Int)) (by omega) (by omega) (by omega);have hb:nM n (k:Int)=n / 2 ^ k%2:=by rw [nM,aJ (by omega),aE,bD]
  rw [hb] at b;have a2:=O3 h1 hp hd;have key:∀ c':RP,c'.ok->c'=D8 p d c (Nat.beq (n / 2 ^ k%2) 1)->eV prog ZG fu SB (SC _ CK (λ t=>nb t.x) (λ t=>(nb t.x).length) (λ t=>nb t.y) (λ t=>(nb t.y).length) (λ t=>nb t.z) (λ t=>(nb t.z).length) _ Cy (λ t=>(t:Int)) _ SA (λ t=>nb t.x) (λ t=>(nb t.x).length) (λ t=>nb t.y) (λ t=>(nb t.y).length) (λ t=>nb t.z) (λ t=>(nb t.z).length) _ rZ (λ t=>(t:Int)) fu) m
   (some (Hy (nb n) (nb n).length (nb d) (nb d).length ((k:Int) - 1) (nb p.x) (nb p.x).length (nb p.y) (nb p.y).length (nb p.z) (nb p.z).length (nb c'.x) (nb c'.x).length (nb c'.y) (nb c'.y).length (nb c'.z) (nb c'.z).length))=some (HC ((cU n (k+1)).foldl (D8 p d) c)):=by
   intro c' hc' e;rw [ih m c' (by omega) (by omega) hc',e];rfl
  have e:((k+1:Nat):Int) - 1=(k:Int):=by omega
  have ew:i64.wrap ((k:Int) - 1)=(k:Int) - 1:=bW (by omega) (by omega);have hbt:n / 2 ^ k%2 < 2:=bH _ (by omega);generalize n / 2 ^ k%2=bb at *;rw [e,aF,aLP,aD (by omega),aB];simp only [HC,eN] at a1 a2 b;rw [a1,aC,b,aC]
  match bb,hbt with
  | 0,_=>
   rw [aJ (by omega),aE,ew];exact key _ h1 rfl
  | 1,_=>
   rw [aD (by omega),aB,a2,aC,ew];exact key _ (Ga _ _ _) rfl
theorem bJQ {n:Nat} (h:n < i9):bl n <= 512:=Ph n 8 (Nat.lt_of_lt_of_eq h (by decide +kernel))
theorem aFF:CallOk prog 102 aCv:=by
 refine aZ (fu:=λ _=>600) aS8 Tryz.func102 ?_;intro args t ht;obtain ⟨p,n,d,rfl,hp,_,hc,hd,rfl⟩:=O2 (F:=CL) (C:=λ n=>Nat.blt n i9) ht;have hn:n < i9:=cY.mp hc;have hl:(nb n).length <= 64:=dL hn;have l:=M4 (x:=n) (by omega);have hb:=bJQ hn;simp only [eN] at l;refine (bEx ..).trans ?_;rw [show CK []=some tA from rfl,aC,l,aC,bW (by omega) (by omega)];exact aS9 hp hl hd 600 (bl n) 600 tA (by omega) (by omega) Gb
theorem ZH {p:RP} {n d:Nat} (h:p.ok) (hn:n < i9) (hd:d < aK):aCw [HC p,eN n,eN d]=some (CL p n d) :=
 aCz CL (λ n=>Nat.blt n i9) h (dC (dL (k:=64) hn) (by decide)) (cY.mpr hn) hd
abbrev bEB:Cg:=aXU (Nat) N3 (λ t=>nb t) (λ t=>(nb t).length) (Nat) qV (λ t=>nb t) (λ t=>(nb t).length)
theorem aTa:CfOk prog bEB.c:=gk <| aA QK <| aA xN <| aH
theorem aFG:CallOk prog 138 aCx:=by
 refine fO aTa Tryz.func138 ?_;intro args t ht;obtain ⟨p,rfl,hp,rfl⟩:=Vw (F:=Eg) ht;have i:=O5 hp.z;have hi:Dd p.z < aK:=mP _;have e:Eg p=(p.x*Dd p.z%aK,p.y*Dd p.z%aK):=rfl;rw [e];generalize Dd p.z=zi at *;have m1:=bQ hp.x hi;have m2:=bQ hp.y hi;simp only [eN] at i m1 m2;refine (bEy ..).trans ?_;rw [i,aC,m1,aC,m2,aC];rfl
theorem ZI {p:RP} (h:p.ok):aCy [HC p]=some (Eg p):=aLR Eg h
abbrev bEC:Cg:=aXQ 
theorem aTb:CfOk prog bEC.c:=gk <| aH
theorem Vz:CallOk prog 27 aLO:=by
 refine fO aTb Tryz.func27 ?_;intro args t ht;obtain ⟨p,rfl,hp,rfl⟩:=tB (F:=λ p=>p) ht;exact bEs ..
theorem Hz {p:Pt} (h:nG p):ZF [eP p]=some p:=CQ (λ p=>p) h
abbrev bED:Cg:=aXR 
theorem aTc:CfOk prog bED.c:=gk <| aH
theorem aLU:CallOk prog 166 bHC:=by
 refine fO aTc Tryz.func166 ?_;intro args t ht;obtain ⟨x,y,z,w,rfl,_,_,_,_,rfl⟩:=WC (F:=λ x y z t=>(⟨x,y,z,t⟩:Pt)) ht;exact bEt ..
theorem aCA {x y z t:Fe} (h1:cS x) (h2:cS y) (h3:cS z) (h4:cS t):aS4 [eF x,eF y,eF z,eF t]=some ⟨x,y,z,t⟩:=aML (λ x y z t=>(⟨x,y,z,t⟩:Pt)) h1 h2 h3 h4
end
end Go.Eng
