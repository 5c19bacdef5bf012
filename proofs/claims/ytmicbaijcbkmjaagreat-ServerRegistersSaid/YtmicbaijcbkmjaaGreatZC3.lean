import Derived.Test.YtmicbaijcbkmjaaGreatZC2
import Derived.Test.YtmicbaijcbkmjaaGreatZF4
namespace Go.Eng
noncomputable section
open Go Go.Proofs
set_option linter.all false
section
variable (T0:Type) (R0:FA T0) (aG aM cB cE cR:T0->Int)
def aZo:Cg:=⟨⟨dE [(131,⟨R0,λ t=>aU [(aG t),(aM t),(cB t),(cE t),(cR t)] 5⟩)],[],dR⟩,[]⟩
theorem aZp (fu:Nat):bB prog Tryz.f118 (aZo T0 R0 aG aM cB cE cR) fu []=(R0 [.str ([(51:UInt8),55,48,57,53,55,48,53,57,51,52,54,54,57,52,51,57,51,52,51,49,51,56,48,56,51,53,48,56,55,53,52,53,54,53,49,56,57].append [(53:UInt8),52,50,49,49,51,56,55,57,56,52,51,50,49,57,48,49,54,51,56,56,55,56,53,53,51,51,48,56,53,57,52,48,50,56,51,53,53,53])]).bind λ t=>some (aU [aG t,aM t,cB t,cE t,cR t] 5):=by kernel_rfl
end
section
variable (T0:Type) (R0:FA T0) (aG aM cB cE cR:T0->Int) (T1:Type) (R1:FA T1) (aN bI gV gW iL:T1->Int)
def aPW:Cg:=⟨⟨dE [(79,⟨R0,λ t=>aU [(aG t),(aM t),(cB t),(cE t),(cR t)] 5⟩),(76,⟨R1,λ t=>aU [(aN t),(bI t),(gV t),(gW t),(iL t)] 5⟩)],[],dR⟩,[]⟩
theorem aWf (fu:Nat) (a b c d e f g h i j:Int):bB prog Tryz.f146 (aPW T0 R0 aG aM cB cE cR T1 R1 aN bI gV gW iL) fu [aU [a,b,c,d,e] 5,aU [f,g,h,i,j] 5]=(R0 [.int .u64 1]).bind λ t=>(R1 [aU [a,b,c,d,e] 5,aU [f,g,h,i,j] 5]).bind λ dH=>some (AV.agg (.ints .u64 ([a,b,c,d,e]++([f,g,h,i,j]++([aG t,aM t,cB t,cE t,cR t]++[aN dH,bI dH,gV dH,gW dH,iL dH])))) 20):=by kernel_rfl
end
section
variable (T0:Type) (R0:FA T0) (aG aM cB cE cR:T0->Int) (T1:Type) (R1:FA T1) (aN:T1->List Int)
def aPX:Cg:=⟨⟨dE [(79,⟨R0,λ t=>aU [(aG t),(aM t),(cB t),(cE t),(cR t)] 5⟩),(146,⟨R1,λ t=>AV.agg (.ints .u64 (aN t)) 20⟩)],[],dR⟩,[]⟩
theorem aWg (fu:Nat):bB prog Tryz.f109 (aPX T0 R0 aG aM cB cE cR T1 R1 aN) fu []=(R0 [.int .u64 0]).bind λ t=>(R0 [.int .u64 1]).bind λ dH=>(R1 [aU [aG t,aM t,cB t,cE t,cR t] 5,aU [aG dH,aM dH,cB dH,cE dH,cR dH] 5]).bind λ t=>some (AV.agg (.ints .u64 (aN t)) 20):=by kernel_rfl
end
section
variable (T0:Type) (R0:FA T0) (aG aM cB cE cR:T0->Int) (T1:Type) (R1:FA T1) (aN bI gV gW iL:T1->Int) (T2:Type) (R2:FA T2) (bC bW dW eT eX:T2->Int) (T3:Type) (R3:FA T3) (bO cI qG zG zH:T3->Int) (T4:Type) (R4:FA T4) (eV jS zI Bb Be:T4->Int) (T5:Type) (R5:FA T5) (T6:Type) (R6:FA T6) (oH oI Ej Ek El:T6->Int) (T7:Type) (R7:FA T7) (xA Eh f7c f7d f7e:T7->Int) (f7f:T7->Bool) (T8:Type) (R8:FA T8) (vL:T8->List Int)
end
section
variable (T0:Type) (R0:FA T0) (aG aM cB cE cR:T0->Int)
def aPY:Cg:=⟨⟨dE [(76,⟨R0,λ t=>aU [(aG t),(aM t),(cB t),(cE t),(cR t)] 5⟩)],[],dR⟩,[]⟩
theorem aWh (fu:Nat) (a b c d e f g h i j k l m n o p q r s t:Int):bB prog Tryz.f159 (aPY T0 R0 aG aM cB cE cR) fu [aU [a,b,c,d,e] 5,aU [f,g,h,i,j] 5,aU [k,l,m,n,o] 5,aU [p,q,r,s,t] 5]=(R0 [aU [a,b,c,d,e] 5,aU [f,g,h,i,j] 5]).bind λ dH=>(R0 [aU [k,l,m,n,o] 5,aU [p,q,r,s,t] 5]).bind λ eU=>(R0 [aU [f,g,h,i,j] 5,aU [k,l,m,n,o] 5]).bind λ gE=>(R0 [aU [a,b,c,d,e] 5,aU [p,q,r,s,t] 5]).bind λ t=>some (AV.agg (.ints .u64 ([aG dH,aM dH,cB dH,cE dH,cR dH]++([aG eU,aM eU,cB eU,cE eU,cR eU]++([aG gE,aM gE,cB gE,cE gE,cR gE]++[aG t,aM t,cB t,cE t,cR t])))) 20):=by kernel_rfl
end
section
variable (T0:Type) (R0:FA T0) (aG aM cB cE cR:T0->Int) (T1:Type) (R1:FA T1) (aN bI gV gW iL:T1->Int) (T2:Type) (R2:FA T2) (bC bW dW eT eX:T2->Int) (T3:Type) (R3:FA T3) (bO:T3->List Int)
def aPZ:Cg:=⟨⟨dE [(77,⟨R0,λ t=>aU [(aG t),(aM t),(cB t),(cE t),(cR t)] 5⟩),(76,⟨R1,λ t=>aU [(aN t),(bI t),(gV t),(gW t),(iL t)] 5⟩),(75,⟨R2,λ t=>aU [(bC t),(bW t),(dW t),(eT t),(eX t)] 5⟩),(159,⟨R3,λ t=>AV.agg (.ints .u64 (bO t)) 20⟩)],[],dR⟩,[]⟩
theorem aWi (fu:Nat) (a b c d e f g h i j k l m n o p q r s t a' b' c' d' e' f' g' h' i' j' k' l' m' n' o' p' q' r' s' t' u0 u1 u2 u3 u4:Int):bB prog Tryz.f124 (aPZ T0 R0 aG aM cB cE cR T1 R1 aN bI gV gW iL T2 R2 bC bW dW eT eX T3 R3 bO) fu [aU [a,b,c,d,e,f,g,h,i,j,k,l,m,n,o,p,q,r,s,t] 20,aU [a',b',c',d',e',f',g',h',i',j',k',l',m',n',o',p',q',r',s',t'] 20,aU [u0,u1,u2,u3,u4] 5]=(R0 [.agg (.ints .u64 (List.take 5 (List.drop 5 [a,b,c,d,e,f,g,h,i,j,k,l,m,n,o,p,q,r,s,t]))) 5,.agg (.ints .u64 (List.take 5 (List.drop 0 [a,b,c,d,e,f,g,h,i,j,k,l,m,n,o,p,q,r,s,t]))) 5]).bind λ dH=>(R0 [.agg (.ints .u64 (List.take 5 (List.drop 5 [a',b',c',d',e',f',g',h',i',j',k',l',m',n',o',p',q',r',s',t']))) 5,.agg (.ints .u64 (List.take 5 (List.drop 0 [a',b',c',d',e',f',g',h',i',j',k',l',m',n',o',p',q',r',s',t']))) 5]).bind λ eU=>(R1 [aU [aG dH,aM dH,cB dH,cE dH,cR dH] 5,aU [aG eU,aM eU,cB eU,cE eU,cR eU] 5]).bind λ gE=>(R2 [.agg (.ints .u64 (List.take 5 (List.drop 5 [a,b,c,d,e,f,g,h,i,j,k,l,m,n,o,p,q,r,s,t]))) 5,.agg (.ints .u64 (List.take 5 (List.drop 0 [a,b,c,d,e,f,g,h,i,j,k,l,m,n,o,p,q,r,s,t]))) 5]).bind λ gT=>(R2 [.agg (.ints .u64 (List.take 5 (List.drop 5 [a',b',c',d',e',f',g',h',i',j',k',l',m',n',o',p',q',r',s',t']))) 5,.agg (.ints .u64 (List.take 5 (List.drop 0 [a',b',c',d',e',f',g',h',i',j',k',l',m',n',o',p',q',r',s',t']))) 5]).bind λ gJ=>(R1 [aU [bC gT,bW gT,dW gT,eT gT,eX gT] 5,aU [bC gJ,bW gJ,dW gJ,eT gJ,eX gJ] 5]).bind λ kA=>(R1 [.agg (.ints .u64 (List.take 5 (List.drop 15 [a,b,c,d,e,f,g,h,i,j,k,l,m,n,o,p,q,r,s,t]))) 5,aU [u0,u1,u2,u3,u4] 5]).bind λ vI=>(R1 [aU [aN vI,bI vI,gV vI,gW vI,iL vI] 5,.agg (.ints .u64 (List.take 5 (List.drop 15 [a',b',c',d',e',f',g',h',i',j',k',l',m',n',o',p',q',r',s',t']))) 5]).bind λ tP=>(R2 [.agg (.ints .u64 (List.take 5 (List.drop 10 [a,b,c,d,e,f,g,h,i,j,k,l,m,n,o,p,q,r,s,t]))) 5,.agg (.ints .u64 (List.take 5 (List.drop 10 [a,b,c,d,e,f,g,h,i,j,k,l,m,n,o,p,q,r,s,t]))) 5]).bind λ t=>(R1 [aU [bC t,bW t,dW t,eT t,eX t] 5,.agg (.ints .u64 (List.take 5 (List.drop 10 [a',b',c',d',e',f',g',h',i',j',k',l',m',n',o',p',q',r',s',t']))) 5]).bind λ t=>(R0 [aU [aN kA,bI kA,gV kA,gW kA,iL kA] 5,aU [aN gE,bI gE,gV gE,gW gE,iL gE] 5]).bind λ tQ=>(R0 [aU [aN t,bI t,gV t,gW t,iL t] 5,aU [aN tP,bI tP,gV tP,gW tP,iL tP] 5]).bind λ gX=>(R2 [aU [aN t,bI t,gV t,gW t,iL t] 5,aU [aN tP,bI tP,gV tP,gW tP,iL tP] 5]).bind λ t=>(R2 [aU [aN kA,bI kA,gV kA,gW kA,iL kA] 5,aU [aN gE,bI gE,gV gE,gW gE,iL gE] 5]).bind λ gM=>(R3 [aU [aG tQ,aM tQ,cB tQ,cE tQ,cR tQ] 5,aU [aG gX,aM gX,cB gX,cE gX,cR gX] 5,aU [bC t,bW t,dW t,eT t,eX t] 5,aU [bC gM,bW gM,dW gM,eT gM,eX gM] 5]).bind λ t=>some (AV.agg (.ints .u64 (bO t)) 20):=by kernel_rfl
end
section
variable (T0:Type) (R0:FA T0) (T1:Type) (R1:FA T1) (aN bI gV gW iL:T1->Int) (T2:Type) (R2:FA T2) (bC:T2->List Int)
def aP0:Cg:=⟨⟨dE [(118,⟨R0,λ t=>AV.agg (.ints .u64 ([929955233495203,466365720129213,1662059464998953,2033849074728123,1442794654840575])) 5⟩),(75,⟨R1,λ t=>aU [(aN t),(bI t),(gV t),(gW t),(iL t)] 5⟩),(124,⟨R2,λ t=>AV.agg (.ints .u64 (bC t)) 20⟩)],[],dR⟩,[]⟩
theorem aWj (fu:Nat) (a b c d e f g h i j k l m n o p q r s t a' b' c' d' e' f' g' h' i' j' k' l' m' n' o' p' q' r' s' t':Int):bB prog Tryz.f215 (aP0 T0 R0 T1 R1 aN bI gV gW iL T2 R2 bC) fu [aU [a,b,c,d,e,f,g,h,i,j,k,l,m,n,o,p,q,r,s,t] 20,aU [a',b',c',d',e',f',g',h',i',j',k',l',m',n',o',p',q',r',s',t'] 20]=(R0 []).bind λ dH=>(R0 []).bind λ eU=>(R1 [aU [929955233495203,466365720129213,1662059464998953,2033849074728123,1442794654840575] 5,aU [929955233495203,466365720129213,1662059464998953,2033849074728123,1442794654840575] 5]).bind λ gE=>(R2 [aU [a,b,c,d,e,f,g,h,i,j,k,l,m,n,o,p,q,r,s,t] 20,aU [a',b',c',d',e',f',g',h',i',j',k',l',m',n',o',p',q',r',s',t'] 20,aU [aN gE,bI gE,gV gE,gW gE,iL gE] 5]).bind λ t=>some (AV.agg (.ints .u64 (bC t)) 20):=by kernel_rfl
end
section
variable (T0:Type) (R0:FA T0) (aG aM cB cE cR:T0->Int) (T1:Type) (R1:FA T1) (aN bI gV gW iL:T1->Int) (T2:Type) (R2:FA T2) (bC bW dW eT eX:T2->Int) (T3:Type) (R3:FA T3) (bO:T3->List Int)
def aP1:Cg:=⟨⟨dE [(80,⟨R0,λ t=>aU [(aG t),(aM t),(cB t),(cE t),(cR t)] 5⟩),(75,⟨R1,λ t=>aU [(aN t),(bI t),(gV t),(gW t),(iL t)] 5⟩),(77,⟨R2,λ t=>aU [(bC t),(bW t),(dW t),(eT t),(eX t)] 5⟩),(159,⟨R3,λ t=>AV.agg (.ints .u64 (bO t)) 20⟩)],[],dR⟩,[]⟩
theorem aWk (fu:Nat) (a b c d e f g h i j k l m n o p q r s t:Int):bB prog Tryz.f123 (aP1 T0 R0 aG aM cB cE cR T1 R1 aN bI gV gW iL T2 R2 bC bW dW eT eX T3 R3 bO) fu [aU [a,b,c,d,e,f,g,h,i,j,k,l,m,n,o,p,q,r,s,t] 20]=(R0 [.agg (.ints .u64 (List.take 5 (List.drop 0 [a,b,c,d,e,f,g,h,i,j,k,l,m,n,o,p,q,r,s,t]))) 5]).bind λ dH=>(R0 [.agg (.ints .u64 (List.take 5 (List.drop 5 [a,b,c,d,e,f,g,h,i,j,k,l,m,n,o,p,q,r,s,t]))) 5]).bind λ eU=>(R0 [.agg (.ints .u64 (List.take 5 (List.drop 10 [a,b,c,d,e,f,g,h,i,j,k,l,m,n,o,p,q,r,s,t]))) 5]).bind λ gE=>(R1 [aU [aG dH,aM dH,cB dH,cE dH,cR dH] 5,aU [aG eU,aM eU,cB eU,cE eU,cR eU] 5]).bind λ gT=>(R2 [aU [aG dH,aM dH,cB dH,cE dH,cR dH] 5,aU [aG eU,aM eU,cB eU,cE eU,cR eU] 5]).bind λ gJ=>(R1 [.agg (.ints .u64 (List.take 5 (List.drop 0 [a,b,c,d,e,f,g,h,i,j,k,l,m,n,o,p,q,r,s,t]))) 5,.agg (.ints .u64 (List.take 5 (List.drop 5 [a,b,c,d,e,f,g,h,i,j,k,l,m,n,o,p,q,r,s,t]))) 5]).bind λ t=>(R0 [aU [aN t,bI t,gV t,gW t,iL t] 5]).bind λ t=>(R2 [aU [aN gT,bI gT,gV gT,gW gT,iL gT] 5,aU [aG t,aM t,cB t,cE t,cR t] 5]).bind λ t=>(R1 [aU [aG gE,aM gE,cB gE,cE gE,cR gE] 5,aU [aG gE,aM gE,cB gE,cE gE,cR gE] 5]).bind λ kA=>(R1 [aU [aN kA,bI kA,gV kA,gW kA,iL kA] 5,aU [bC gJ,bW gJ,dW gJ,eT gJ,eX gJ] 5]).bind λ vI=>(R3 [aU [bC t,bW t,dW t,eT t,eX t] 5,aU [aN vI,bI vI,gV vI,gW vI,iL vI] 5,aU [bC gJ,bW gJ,dW gJ,eT gJ,eX gJ] 5,aU [aN gT,bI gT,gV gT,gW gT,iL gT] 5]).bind λ t=>some (AV.agg (.ints .u64 (bO t)) 20):=by kernel_rfl
end
section
variable (T0:Type) (R0:FA T0) (aG aM cB cE cR:T0->Int)
end
section
variable (T0:Type) (R0:FA T0) (aG aM cB cE cR:T0->Int) (T1:Type) (R1:FA T1) (aN bI gV gW iL:T1->Int)
end
section
variable (T0:Type) (R0:FA T0) (aG aM cB cE cR:T0->Int) (T1:Type) (R1:FA T1) (aN:T1->Bool)
end
section
variable (T0:Type) (R0:FA T0) (aG:T0->List Int) (aM:T0->Nat) (T1:Type) (R1:FA T1) (aN:T1->List Int) (bI:T1->Nat) (T2:Type) (R2:FA T2) (bC:T2->List Int) (bW:T2->Nat) (T3:Type) (R3:FA T3) (bO:T3->List Int) (cI:T3->Nat)
def aP2:Cg:=⟨⟨dE [(42,⟨R0,λ t=>AV.s (dI (aG t) (aM t))⟩),(41,⟨R1,λ t=>AV.s (dI (aN t) (bI t))⟩),(43,⟨R2,λ t=>AV.s (dI (bC t) (bW t))⟩),(40,⟨R3,λ t=>AV.s (dI (bO t) (cI t))⟩)],[],dR⟩,[]⟩
theorem aWl (fu:Nat):bB prog Tryz.f23 (aP2 T0 R0 aG aM T1 R1 aN bI T2 R2 bC bW T3 R3 bO cI) fu []=(R0 [.int .u64 121665]).bind λ t=>(R1 [.s (dI [] 0),.s (dI (aG t) (aM t))]).bind λ t=>(R0 [.int .u64 121666]).bind λ dH=>(R2 [.s (dI (aG dH) (aM dH))]).bind λ eU=>(R3 [.s (dI (aN t) (bI t)),.s (dI (bC eU) (bW eU))]).bind λ t=>some (AV.s (dI (bO t) (cI t))):=by kernel_rfl
end
section
variable (T0:Type) (R0:FA T0) (T1:Type) (R1:FA T1) (T2:Type) (R2:FA T2) (bC:T2->List Int) (T3:Type) (R3:FA T3) (bO:T3->List Int) (T4:Type) (R4:FA T4) (eV:T4->List Int) (T5:Type) (R5:FA T5) (fW:T5->List Int) (T6:Type) (R6:FA T6) (oH:T6->Bool) (T7:Type) (R7:FA T7) (xA:T7->List Int) (T8:Type) (R8:FA T8) (vL wY Bt KE KF:T8->Int) (T9:Type) (R9:FA T9) (zE Cy L7 L8 L9:T9->Int) (So:Type) (R10:FA So) (Av:So->Bool)
end
set_option maxRecDepth 4000
def qF (p:Pt):Prop:=cN p.x /\ cN p.y /\ cN p.z /\ cN p.t
theorem Ai {T:Type} {F:Pt->T} {args:List AV} {t:T} (h:DO F args=some t):∃ p,args=[eP p] /\ qF p /\ t=F p:=by
 unfold DO at h;split at h
 ·obtain ⟨h1,h2⟩:=cC h;simp only [aX] at h1;obtain ⟨x,rfl,rfl,rfl,rfl,rfl,hx,ex⟩:=eI h1.1;obtain ⟨y,rfl,rfl,rfl,rfl,rfl,hy,ey⟩:=eI h1.2.1;obtain ⟨z,rfl,rfl,rfl,rfl,rfl,hz,ez⟩:=eI h1.2.2.1;obtain ⟨w,rfl,rfl,rfl,rfl,rfl,hw,ew⟩:=eI h1.2.2.2;rw [ex,ey,ez,ew] at h2;exact ⟨⟨x,y,z,w⟩,rfl,⟨hx,hy,hz,hw⟩,h2.symm⟩
 ·cases h
theorem Jr {T:Type} {F:Pt->Pt->T} {args:List AV} {t:T} (h:Kz F args=some t):∃ p q,args=[eP p,eP q] /\ qF p /\ qF q /\ t=F p q:=by
 unfold Kz at h;split at h
 ·obtain ⟨h1,h2⟩:=cC h;simp only [aX] at h1;obtain ⟨x,rfl,rfl,rfl,rfl,rfl,hx,ex⟩:=eI h1.1.1;obtain ⟨y,rfl,rfl,rfl,rfl,rfl,hy,ey⟩:=eI h1.1.2.1;obtain ⟨z,rfl,rfl,rfl,rfl,rfl,hz,ez⟩:=eI h1.1.2.2.1;obtain ⟨w,rfl,rfl,rfl,rfl,rfl,hw,ew⟩:=eI h1.1.2.2.2;obtain ⟨x',rfl,rfl,rfl,rfl,rfl,hx',ex'⟩:=eI h1.2.1;obtain ⟨y',rfl,rfl,rfl,rfl,rfl,hy',ey'⟩:=eI h1.2.2.1;obtain ⟨z',rfl,rfl,rfl,rfl,rfl,hz',ez'⟩:=eI h1.2.2.2.1;obtain ⟨w',rfl,rfl,rfl,rfl,rfl,hw',ew'⟩:=eI h1.2.2.2.2;rw [ex,ey,ez,ew,ex',ey',ez',ew'] at h2;exact ⟨⟨x,y,z,w⟩,⟨x',y',z',w'⟩,rfl,⟨hx,hy,hz,hw⟩,⟨hx',hy',hz',hw'⟩,h2.symm⟩
 ·cases h
theorem aAL {T:Type} {F:Pt->Pt->Fe->T} {args:List AV} {t:T} (h:IV F args=some t):∃ p q u,args=[eP p,eP q,eF u] /\ qF p /\ qF q /\ cN u /\ t=F p q u:=by
 unfold IV at h;split at h
 ·obtain ⟨h1,h2⟩:=cC h;simp only [aX] at h1;obtain ⟨x,rfl,rfl,rfl,rfl,rfl,hx,ex⟩:=eI h1.1.1.1;obtain ⟨y,rfl,rfl,rfl,rfl,rfl,hy,ey⟩:=eI h1.1.1.2.1;obtain ⟨z,rfl,rfl,rfl,rfl,rfl,hz,ez⟩:=eI h1.1.1.2.2.1;obtain ⟨w,rfl,rfl,rfl,rfl,rfl,hw,ew⟩:=eI h1.1.1.2.2.2;obtain ⟨x',rfl,rfl,rfl,rfl,rfl,hx',ex'⟩:=eI h1.1.2.1;obtain ⟨y',rfl,rfl,rfl,rfl,rfl,hy',ey'⟩:=eI h1.1.2.2.1;obtain ⟨z',rfl,rfl,rfl,rfl,rfl,hz',ez'⟩:=eI h1.1.2.2.2.1;obtain ⟨w',rfl,rfl,rfl,rfl,rfl,hw',ew'⟩:=eI h1.1.2.2.2.2;obtain ⟨u,rfl,rfl,rfl,rfl,rfl,hu,eu⟩:=eI h1.2;rw [ex,ey,ez,ew,ex',ey',ez',ew',eu] at h2;exact ⟨⟨x,y,z,w⟩,⟨x',y',z',w'⟩,u,rfl,⟨hx,hy,hz,hw⟩,⟨hx',hy',hz',hw'⟩,hu,h2.symm⟩
 ·cases h
theorem SA {T:Type} {F:Fe->Fe->Fe->Fe->T} {args:List AV} {t:T} (h:K0 F args=some t):∃ x y z w,args=[eF x,eF y,eF z,eF w] /\ cN x /\ cN y /\ cN z /\ cN w /\ t=F x y z w:=by
 unfold K0 at h;split at h
 ·obtain ⟨h1,h2⟩:=cC h;simp only [aX] at h1;obtain ⟨x,rfl,rfl,rfl,rfl,rfl,hx,ex⟩:=eI h1.1;obtain ⟨y,rfl,rfl,rfl,rfl,rfl,hy,ey⟩:=eI h1.2.1;obtain ⟨z,rfl,rfl,rfl,rfl,rfl,hz,ez⟩:=eI h1.2.2.1;obtain ⟨w,rfl,rfl,rfl,rfl,rfl,hw,ew⟩:=eI h1.2.2.2;rw [ex,ey,ez,ew] at h2;exact ⟨x,y,z,w,rfl,hx,hy,hz,hw,h2.symm⟩
 ·cases h
theorem Js {T:Type} (F:Pt->T) {p:Pt} (h:qF p):DO F [eP p]=some (F p):=by
 obtain ⟨x,y,z,w⟩:=p;obtain ⟨h1,h2,h3,h4⟩:=h;simp only [DO,eP];rw [eJ h1,eJ h2,eJ h3,eJ h4]; rfl
theorem aHi {T:Type} (F:Pt->Pt->T) {p q:Pt} (h:qF p) (k:qF q):Kz F [eP p,eP q]=some (F p q):=by
 obtain ⟨x,y,z,w⟩:=p;obtain ⟨h1,h2,h3,h4⟩:=h;obtain ⟨x',y',z',w'⟩:=q;obtain ⟨k1,k2,k3,k4⟩:=k;simp only [Kz,eP];rw [eJ h1,eJ h2,eJ h3,eJ h4,eJ k1,eJ k2,eJ k3,eJ k4]; rfl
theorem aM7 {T:Type} (F:Pt->Pt->Fe->T) {p q:Pt} {u:Fe} (h:qF p) (k:qF q) (hu:cN u):IV F [eP p,eP q,eF u]=some (F p q u):=by
 obtain ⟨x,y,z,w⟩:=p;obtain ⟨h1,h2,h3,h4⟩:=h;obtain ⟨x',y',z',w'⟩:=q;obtain ⟨k1,k2,k3,k4⟩:=k;simp only [IV,eP,eF];rw [eJ h1,eJ h2,eJ h3,eJ h4,eJ k1,eJ k2,eJ k3,eJ k4,eJ hu]; rfl
theorem aHj {T:Type} (F:Fe->Fe->Fe->Fe->T) {x y z w:Fe} (h1:cN x) (h2:cN y) (h3:cN z) (h4:cN w):K0 F [eF x,eF y,eF z,eF w]=some (F x y z w):=by
 simp only [K0,eF];rw [eJ h1,eJ h2,eJ h3,eJ h4]; rfl
theorem SB {x y:Fe} (hx:cN x) (hy:cN y):qF (CT x y):=⟨hx,hy,cV 1,aL hx hy⟩
theorem YO {e f g h:Fe} (he:cN e) (hf:cN f) (hg:cN g) (hh:cN h):qF (IY e f g h):=⟨aL he hf,aL hg hh,aL hf hg,aL he hh⟩
theorem Oy {p q:Pt} {u:Fe} (hp:qF p) (hq:qF q) (hu:cN u):qF (CU p q u):=by
 obtain ⟨h1,h2,h3,h4⟩:=hp;obtain ⟨k1,k2,k3,k4⟩:=hq;have a:=aL (x:=cJ p.y p.x) (y:=cJ q.y q.x) (cL h2) (cL k2);have b:=aL (cD h2 h1) (cD k2 k1);have c:=aL (aL h4 hu) k4;have d:=aL (cD h3 h3) k3;exact YO (cL b) (cL d) (cD d c) (cD b a)
theorem uO:cN dF:=cV _
theorem Lr:cN E4:=cD uO uO
theorem Hf {p:Pt} (hp:qF p):qF (Gm p):=by
 obtain ⟨h1,h2,h3,h4⟩:=hp;have a:=aL h1 h1;have b:=aL h2 h2;have z:=aL h3 h3;have s:=cD h1 h2;exact YO (cL (cD a b)) (cD (cD z z) (cL a)) (cL a) (cD a b)
theorem EO:qF gZ:=SB (cV 0) (cV 1)
where inv_okC {x:Fe} (hx:cN x):cN (aT2 x):=UK hx (cV 1)
abbrev aZq:Cg:=aZo (Fe) CG (λ t=>↑t.a) (λ t=>↑t.b) (λ t=>↑t.c) (λ t=>↑t.d) (λ t=>↑t.e)
theorem aWm:CfOk prog aZq.c:=gk <| aA HH <| aK
def aZr:Str:=[51,55,48,57,53,55,48,53,57,51,52,54,54,57,52,51,57,51,52,51,49,51,56,48,56,51,53,48,56,55,53,52,53,54,53,49,56,57,53,52,50,49,49,51,56,55,57,56,52,51,50,49,57,48,49,54,51,56,56,55,56,53,53,51,51,48,56,53,57,52,48,50,56,51,53,53,53]
theorem aHk:(z6 aZr).1%aJ=37095705934669439343138083508754565189542113879843219016388785533085940283555:=by decide +kernel
theorem SC:CallOk prog 118 sCD:=by
 refine i7 aWm Tryz.func118 ?_;intro args t ht;unfold sCD at ht;simp only at ht;split at ht
 ·refine (aZp ..).trans ?_;have d:=nG (s:=aZr) (by decide +kernel);rw [aHk] at d;refine (dQ (λ o=>Option.bind o _) d).trans ?_;rfl
 ·cases ht
abbrev aWn:Cg:=aPW (Fe) Nx (λ t=>↑t.a) (λ t=>↑t.b) (λ t=>↑t.c) (λ t=>↑t.d) (λ t=>↑t.e) (Fe) iC (λ t=>↑t.a) (λ t=>↑t.b) (λ t=>↑t.c) (λ t=>↑t.d) (λ t=>↑t.e)
theorem aM8:CfOk prog aWn.c:=gk <| aA Ce <| aA nN <| aK
theorem SD:CallOk prog 146 Mp:=by
 refine i7 aM8 Tryz.func146 ?_;intro args t ht;obtain ⟨x,y,rfl,hx,hy,rfl⟩:=wL (F:=CT) ht;have o1:=xT (n:=1) (by decide);rw [show ((1:Nat):Int)=1 from rfl] at o1;have m:=bF hx hy;simp only [eF] at m;refine (aWf ..).trans ?_;rw [o1,aC,m,aC];rfl
theorem aAM {x y:Fe} (hx:cN x) (hy:cN y):TO [eF x,eF y]=some (CT x y):=by
 simp only [TO,Mp]; exact FD CT hx hy
abbrev aWo:Cg:=aPX (Fe) Nx (λ t=>↑t.a) (λ t=>↑t.b) (λ t=>↑t.c) (λ t=>↑t.d) (λ t=>↑t.e) (Pt) TO (λ t=>[↑t.x.a,↑t.x.b,↑t.x.c,↑t.x.d,↑t.x.e,↑t.y.a,↑t.y.b,↑t.y.c,↑t.y.d,↑t.y.e,↑t.z.a,↑t.z.b,↑t.z.c,↑t.z.d,↑t.z.e,↑t.t.a,↑t.t.b,↑t.t.c,↑t.t.d,↑t.t.e])
theorem aM9:CfOk prog aWo.c:=gk <| aA Ce <| aA SD <| aK
theorem Oz:CallOk prog 109 IW:=by
 refine i7 aM9 Tryz.func109 ?_;intro args t ht;unfold IW Gl at ht;simp only at ht;split at ht
 ·cases ht;have o0:=xT (n:=0) (by decide);have o1:=xT (n:=1) (by decide);rw [show ((1:Nat):Int)=1 from rfl] at o1;rw [show ((0:Nat):Int)=0 from rfl] at o0;have m:=aAM (cV 0) (cV 1);simp only [eF] at m;refine (aWg ..).trans ?_;rw [o0,aC,o1,aC,m,aC];rfl
 ·cases ht
theorem Aj:IX []=some gZ:=rfl
abbrev aWp:Cg:=aPY (Fe) iC (λ t=>↑t.a) (λ t=>↑t.b) (λ t=>↑t.c) (λ t=>↑t.d) (λ t=>↑t.e)
theorem aNa:CfOk prog aWp.c:=gk <| aA nN <| aK
theorem aP3:CallOk prog 159 sJn:=by
 refine i7 aNa Tryz.func159 ?_;intro args t ht;obtain ⟨e,f,g,h,rfl,he,hf,hg,hh,rfl⟩:=SA (F:=IY) ht;have m1:=bF he hf;have m2:=bF hg hh;have m3:=bF hf hg;have m4:=bF he hh;simp only [eF] at m1 m2 m3 m4;refine (aWh ..).trans ?_;rw [m1,aC,m2,aC,m3,aC,m4,aC];rfl
theorem aHl {e f g h:Fe} (he:cN e) (hf:cN f) (hg:cN g) (hh:cN h):rJn [eF e,eF f,eF g,eF h]=some (IY e f g h):=by
 simp only [rJn,sJn]; exact aHj IY he hf hg hh
abbrev aWq:Cg:=aPZ (Fe) wI (λ t=>↑t.a) (λ t=>↑t.b) (λ t=>↑t.c) (λ t=>↑t.d) (λ t=>↑t.e) (Fe) iC (λ t=>↑t.a) (λ t=>↑t.b) (λ t=>↑t.c) (λ t=>↑t.d) (λ t=>↑t.e) (Fe) uG (λ t=>↑t.a) (λ t=>↑t.b) (λ t=>↑t.c) (λ t=>↑t.d) (λ t=>↑t.e) (Pt) rJn (λ t=>[↑t.x.a,↑t.x.b,↑t.x.c,↑t.x.d,↑t.x.e,↑t.y.a,↑t.y.b,↑t.y.c,↑t.y.d,↑t.y.e,↑t.z.a,↑t.z.b,↑t.z.c,↑t.z.d,↑t.z.e,↑t.t.a,↑t.t.b,↑t.t.c,↑t.t.d,↑t.t.e])
theorem aNb:CfOk prog aWq.c:=gk <| aA xU <| aA nN <| aA uI <| aA aP3 <| aK
theorem U7:CallOk prog 124 aJs:=by
 refine i7 aNb Tryz.func124 ?_;intro args t ht;obtain ⟨p,q,u,rfl,⟨h1,h2,h3,h4⟩,⟨k1,k2,k3,k4⟩,hu,rfl⟩:=aAL (F:=CU) ht;have s1:=gP h2 h1;have s2:=gP k2 k1;have m1:=bF (x:=cJ p.y p.x) (y:=cJ q.y q.x) (cL h2) (cL k2);have a1:=fN h2 h1;have a2:=fN k2 k1;have m2:=bF (cD h2 h1) (cD k2 k1);have m3:=bF h4 hu;have m4:=bF (aL h4 hu) k4;have a3:=fN h3 h3;have m5:=bF (cD h3 h3) k3;have ka:=aL (x:=cJ p.y p.x) (y:=cJ q.y q.x) (cL h2) (cL k2);have kb:=aL (cD h2 h1) (cD k2 k1);have kc:=aL (aL h4 hu) k4;have kd:=aL (cD h3 h3) k3;have s3:=gP kb ka;have s4:=gP kd kc;have a4:=fN kd kc;have a5:=fN kb ka;have j:=aHl (cL (y:=aO (cJ p.y p.x) (cJ q.y q.x)) kb) (cL (y:=aO (aO p.t u) q.t) kd) (cD kd kc) (cD kb ka);simp only [eF] at s1 s2 m1 a1 a2 m2 m3 m4 a3 m5 s3 s4 a4 a5 j;refine (aWi ..).trans ?_;simp only [PH,kU,yT,uR];rw [s1,aC,s2,aC,m1,aC,a1,aC,a2,aC,m2,aC,m3,aC,m4,aC,a3,aC,m5,aC,s3,aC,s4,aC,a4,aC,a5,aC,j,aC];rfl
theorem YP {p q:Pt} {u:Fe} (h:qF p) (k:qF q) (hu:cN u):ZS [eP p,eP q,eF u]=some (CU p q u):=by
 simp only [ZS,aJs]; exact aM7 CU h k hu
theorem YQ:eF dF=AV.agg (.ints .u64 [929955233495203,466365720129213,1662059464998953,2033849074728123,1442794654840575]) 5:=by kernel_rfl
abbrev aWr:Cg:=aP0 (PUnit) rCD (Fe) uG (λ t=>↑t.a) (λ t=>↑t.b) (λ t=>↑t.c) (λ t=>↑t.d) (λ t=>↑t.e) (Pt) ZS (λ t=>[↑t.x.a,↑t.x.b,↑t.x.c,↑t.x.d,↑t.x.e,↑t.y.a,↑t.y.b,↑t.y.c,↑t.y.d,↑t.y.e,↑t.z.a,↑t.z.b,↑t.z.c,↑t.z.d,↑t.z.e,↑t.t.a,↑t.t.b,↑t.t.c,↑t.t.d,↑t.t.e])
theorem aNc:CfOk prog aWr.c:=gk <| aA SC <| aA uI <| aA U7 <| aK
theorem aNd:CallOk prog 215 V0:=by
 refine i7 aNc Tryz.func215 ?_;intro args t ht;obtain ⟨p,q,rfl,hp,hq,rfl⟩:=Jr (F:=λ p q=>CU p q E4) ht;have a:=fN uO uO;rw [YQ] at a;have m:=YP hp hq Lr;simp only [eP,eF] at m;refine (aWj ..).trans ?_;rw [show rCD []=some () from rfl,aC,aC,a,aC];refine (dQ (λ o=>Option.bind o _) m).trans ?_;rfl
theorem SE {p q:Pt} (h:qF p) (k:qF q):V1 [eP p,eP q]=some (CU p q E4):=by
 simp only [V1,V0]; exact aHi (λ p q=>CU p q E4) h k
set_option maxRecDepth 4000
abbrev aWs:Cg:=aP1 (Fe) Nz (λ t=>↑t.a) (λ t=>↑t.b) (λ t=>↑t.c) (λ t=>↑t.d) (λ t=>↑t.e) (Fe) uG (λ t=>↑t.a) (λ t=>↑t.b) (λ t=>↑t.c) (λ t=>↑t.d) (λ t=>↑t.e) (Fe) wI (λ t=>↑t.a) (λ t=>↑t.b) (λ t=>↑t.c) (λ t=>↑t.d) (λ t=>↑t.e) (Pt) rJn (λ t=>[↑t.x.a,↑t.x.b,↑t.x.c,↑t.x.d,↑t.x.e,↑t.y.a,↑t.y.b,↑t.y.c,↑t.y.d,↑t.y.e,↑t.z.a,↑t.z.b,↑t.z.c,↑t.z.d,↑t.z.e,↑t.t.a,↑t.t.b,↑t.t.c,↑t.t.d,↑t.t.e])
theorem aNe:CfOk prog aWs.c:=gk <| aA Ch <| aA uI <| aA xU <| aA aP3 <| aK
theorem aWt:CallOk prog 123 aSo:=by
 refine i7 aNe Tryz.func123 ?_;intro args t ht;obtain ⟨p,rfl,⟨h1,h2,h3,h4⟩,rfl⟩:=Ai (F:=Gm) ht;have q1:=j4 h1;have q2:=j4 h2;have q3:=j4 h3;have ka:=aL h1 h1;have kb:=aL h2 h2;have kz:=aL h3 h3;have a1:=fN ka kb;have s1:=gP ka kb;have a2:=fN h1 h2;have q4:=j4 (cD h1 h2);have kq:=aL (cD h1 h2) (cD h1 h2);have s2:=gP (cD ka kb) kq;have a3:=fN kz kz;have ks:cN (cJ (aO p.x p.x) (aO p.y p.y)):=cL ka;have a4:=fN (cD kz kz) ks;have j:=aHl (cL (y:=aO (gC p.x p.y) (gC p.x p.y)) (cD ka kb)) (cD (cD kz kz) ks) ks (cD ka kb);simp only [eF] at q1 q2 q3 a1 s1 a2 q4 s2 a3 a4 j;refine (aWk ..).trans ?_;simp only [PH,kU,yT,uR];rw [q1,aC,q2,aC,q3,aC,a1,aC,s1,aC,a2,aC,q4,aC,s2,aC,a3,aC,a4,aC,j,aC];rfl
theorem aNf {p:Pt} (h:qF p):aCN [eP p]=some (Gm p):=by
 simp only [aCN,aSo]; exact Js Gm h
set_option maxRecDepth 4000
theorem aWu {k j e:Nat} (he:e=aJ - 2) (hk:k*j%aJ=1) (hj:j < aJ):k ^ e%aJ=j:=by
 have h0:¬ cg (k:Int) 0:=λ h=>by
  have h1:=h.mul (cg.refl (j:Int));rw [yN,<-oA] at h1;have:=pL.1 h1;rw [hk] at this; cases this
 have hf:=A6 h0 (e+1) (by rw [he]; decide);rw [vF] at hf;have h1:cg ((k:Int)*(j:Int)) 1:=by
  have:=mG.2 (show k*j%aJ=1%aJ by rw [hk]; decide);rwa [oA] at this
 have h2:=hf.mul (cg.refl (j:Int));rw [Int.mul_assoc,rE] at h2;have h3:=((cg.refl ((k:Int) ^ e)).mul h1).symm;rw [Int.mul_one] at h3;have h4:=h3.trans h2;rw [<-J8] at h4;have:=mG.1 h4;rwa [aV hj] at this
abbrev dN:Nat:=37095705934669439343138083508754565189542113879843219016388785533085940283555
abbrev aWv:Cg:=aP2 (Nat) wC (λ t=>nb t) (λ t=>(nb t).length) (Nat) y7 (λ t=>nb t) (λ t=>(nb t).length) (Nat) LT (λ t=>nb t) (λ t=>(nb t).length) (Nat) oR (λ t=>nb t) (λ t=>(nb t).length)
theorem aNg:CfOk prog aWv.c:=gk <| aA GW <| aA Da <| aA Mr <| aA uC <| aK
theorem aZs:CallOk prog 23 sRD:=by
 refine i7 aNg Tryz.func23 ?_;intro args t ht;unfold sRD Gl at ht;simp only at ht;split at ht
 ·have ht:=dG ht;subst ht;have s1:=yH (k:=121665) (by decide);have s2:=yH (k:=121666) (by decide);rw [show ((121665:Nat):Int)=121665 from rfl] at s1;rw [show ((121666:Nat):Int)=121666 from rfl] at s2;have n:=nJ (x:=0) (y:=121665) (by decide) (by decide);rw [show (0+aJ - 121665)%aJ=57896044618658097711785492504343953926634992332820282019728792003956564698284 by decide] at n;have i:=QT (x:=121666) (by decide);rw [aWu (k:=121666) (j:=37095705934669439343138083508754565189542113879843219016388785533085940283556) rfl (by decide) (by decide)] at i;have m:=bJ (x:=57896044618658097711785492504343953926634992332820282019728792003956564698284) (y:=37095705934669439343138083508754565189542113879843219016388785533085940283556) (by decide) (by decide);rw [show 57896044618658097711785492504343953926634992332820282019728792003956564698284*37095705934669439343138083508754565189542113879843219016388785533085940283556%aJ=dN by decide] at m;simp only [eN] at n i m;refine (aWl ..).trans ?_;rw [s1,aC];refine (dQ (λ o=>Option.bind o _) n).trans ?_;rw [aC,s2,aC,i,aC,m,aC];rfl
 ·cases ht
theorem aWw:rRD []=some dN:=rfl
theorem aNh:(fv (fe 1):Int)=1:=by decide +kernel
theorem aNi:kO (aT2 (fe 1)) (fe 1)=true:=by decide +kernel
theorem mul_one {x:Fe} (hx:cN x):kO (aO x (aT2 (fe 1))) x=true:=by
 refine DY.2 ((gK x _).trans (((cg.refl _).mul (DY.1 aNi)).trans ?_));rw [aNh,Int.mul_one];exact cg.refl _
theorem SF (n:Nat):fR (lo 32 n)=true:=by rw [fR,i4,sW]; rfl
end
end Go.Eng
