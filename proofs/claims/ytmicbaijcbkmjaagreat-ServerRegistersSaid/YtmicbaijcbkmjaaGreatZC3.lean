import Derived.Test.YtmicbaijcbkmjaaGreatZC2
import Derived.Test.YtmicbaijcbkmjaaGreatZF4
namespace Go.Eng
noncomputable section
open Go Go.Proofs
set_option linter.all false
section
variable (T0:Type) (R0:FA T0) (aG aM cB cE cR:T0->Int)
def aZf:Cg:=⟨⟨dD [(131,⟨R0,λ t=>aU [(aG t),(aM t),(cB t),(cE t),(cR t)] 5⟩)],[],dS⟩,[]⟩
theorem aZg (fu:Nat):bB prog Tryz.f118 (aZf T0 R0 aG aM cB cE cR) fu []=(R0 [.str ([(51:UInt8),55,48,57,53,55,48,53,57,51,52,54,54,57,52,51,57,51,52,51,49,51,56,48,56,51,53,48,56,55,53,52,53,54,53,49,56,57].append [(53:UInt8),52,50,49,49,51,56,55,57,56,52,51,50,49,57,48,49,54,51,56,56,55,56,53,53,51,51,48,56,53,57,52,48,50,56,51,53,53,53])]).bind λ t=>some (aU [aG t,aM t,cB t,cE t,cR t] 5):=by kernel_rfl
end
section
variable (T0:Type) (R0:FA T0) (aG aM cB cE cR:T0->Int) (T1:Type) (R1:FA T1) (aN bI gV gW iL:T1->Int)
def aPT:Cg:=⟨⟨dD [(79,⟨R0,λ t=>aU [(aG t),(aM t),(cB t),(cE t),(cR t)] 5⟩),(76,⟨R1,λ t=>aU [(aN t),(bI t),(gV t),(gW t),(iL t)] 5⟩)],[],dS⟩,[]⟩
theorem aWi (fu:Nat) (a b c d e f g h i j:Int):bB prog Tryz.f146 (aPT T0 R0 aG aM cB cE cR T1 R1 aN bI gV gW iL) fu [aU [a,b,c,d,e] 5,aU [f,g,h,i,j] 5]=(R0 [.int .u64 1]).bind λ t=>(R1 [aU [a,b,c,d,e] 5,aU [f,g,h,i,j] 5]).bind λ dH=>some (AV.agg (.ints .u64 ([a,b,c,d,e]++([f,g,h,i,j]++([aG t,aM t,cB t,cE t,cR t]++[aN dH,bI dH,gV dH,gW dH,iL dH])))) 20):=by kernel_rfl
end
section
variable (T0:Type) (R0:FA T0) (aG aM cB cE cR:T0->Int) (T1:Type) (R1:FA T1) (aN:T1->List Int)
def aPU:Cg:=⟨⟨dD [(79,⟨R0,λ t=>aU [(aG t),(aM t),(cB t),(cE t),(cR t)] 5⟩),(146,⟨R1,λ t=>AV.agg (.ints .u64 (aN t)) 20⟩)],[],dS⟩,[]⟩
theorem aWj (fu:Nat):bB prog Tryz.f109 (aPU T0 R0 aG aM cB cE cR T1 R1 aN) fu []=(R0 [.int .u64 0]).bind λ t=>(R0 [.int .u64 1]).bind λ dH=>(R1 [aU [aG t,aM t,cB t,cE t,cR t] 5,aU [aG dH,aM dH,cB dH,cE dH,cR dH] 5]).bind λ t=>some (AV.agg (.ints .u64 (aN t)) 20):=by kernel_rfl
end
section
variable (T0:Type) (R0:FA T0) (aG aM cB cE cR:T0->Int) (T1:Type) (R1:FA T1) (aN bI gV gW iL:T1->Int) (T2:Type) (R2:FA T2) (bC bW dW eT eX:T2->Int) (T3:Type) (R3:FA T3) (bO cI qG zG zH:T3->Int) (T4:Type) (R4:FA T4) (eV jS zI Bb Be:T4->Int) (T5:Type) (R5:FA T5) (T6:Type) (R6:FA T6) (oH oI Ej Ek El:T6->Int) (T7:Type) (R7:FA T7) (xB Eh f7c f7d f7e:T7->Int) (f7f:T7->Bool) (T8:Type) (R8:FA T8) (vL:T8->List Int)
end
section
variable (T0:Type) (R0:FA T0) (aG aM cB cE cR:T0->Int)
def aPV:Cg:=⟨⟨dD [(76,⟨R0,λ t=>aU [(aG t),(aM t),(cB t),(cE t),(cR t)] 5⟩)],[],dS⟩,[]⟩
theorem aWk (fu:Nat) (a b c d e f g h i j k l m n o p q r s t:Int):bB prog Tryz.f159 (aPV T0 R0 aG aM cB cE cR) fu [aU [a,b,c,d,e] 5,aU [f,g,h,i,j] 5,aU [k,l,m,n,o] 5,aU [p,q,r,s,t] 5]=(R0 [aU [a,b,c,d,e] 5,aU [f,g,h,i,j] 5]).bind λ dH=>(R0 [aU [k,l,m,n,o] 5,aU [p,q,r,s,t] 5]).bind λ eU=>(R0 [aU [f,g,h,i,j] 5,aU [k,l,m,n,o] 5]).bind λ gF=>(R0 [aU [a,b,c,d,e] 5,aU [p,q,r,s,t] 5]).bind λ t=>some (AV.agg (.ints .u64 ([aG dH,aM dH,cB dH,cE dH,cR dH]++([aG eU,aM eU,cB eU,cE eU,cR eU]++([aG gF,aM gF,cB gF,cE gF,cR gF]++[aG t,aM t,cB t,cE t,cR t])))) 20):=by kernel_rfl
end
section
variable (T0:Type) (R0:FA T0) (aG aM cB cE cR:T0->Int) (T1:Type) (R1:FA T1) (aN bI gV gW iL:T1->Int) (T2:Type) (R2:FA T2) (bC bW dW eT eX:T2->Int) (T3:Type) (R3:FA T3) (bO:T3->List Int)
def aPW:Cg:=⟨⟨dD [(77,⟨R0,λ t=>aU [(aG t),(aM t),(cB t),(cE t),(cR t)] 5⟩),(76,⟨R1,λ t=>aU [(aN t),(bI t),(gV t),(gW t),(iL t)] 5⟩),(75,⟨R2,λ t=>aU [(bC t),(bW t),(dW t),(eT t),(eX t)] 5⟩),(159,⟨R3,λ t=>AV.agg (.ints .u64 (bO t)) 20⟩)],[],dS⟩,[]⟩
theorem aWl (fu:Nat) (a b c d e f g h i j k l m n o p q r s t a' b' c' d' e' f' g' h' i' j' k' l' m' n' o' p' q' r' s' t' u0 u1 u2 u3 u4:Int):bB prog Tryz.f124 (aPW T0 R0 aG aM cB cE cR T1 R1 aN bI gV gW iL T2 R2 bC bW dW eT eX T3 R3 bO) fu [aU [a,b,c,d,e,f,g,h,i,j,k,l,m,n,o,p,q,r,s,t] 20,aU [a',b',c',d',e',f',g',h',i',j',k',l',m',n',o',p',q',r',s',t'] 20,aU [u0,u1,u2,u3,u4] 5]=(R0 [.agg (.ints .u64 (List.take 5 (List.drop 5 [a,b,c,d,e,f,g,h,i,j,k,l,m,n,o,p,q,r,s,t]))) 5,.agg (.ints .u64 (List.take 5 (List.drop 0 [a,b,c,d,e,f,g,h,i,j,k,l,m,n,o,p,q,r,s,t]))) 5]).bind λ dH=>(R0 [.agg (.ints .u64 (List.take 5 (List.drop 5 [a',b',c',d',e',f',g',h',i',j',k',l',m',n',o',p',q',r',s',t']))) 5,.agg (.ints .u64 (List.take 5 (List.drop 0 [a',b',c',d',e',f',g',h',i',j',k',l',m',n',o',p',q',r',s',t']))) 5]).bind λ eU=>(R1 [aU [aG dH,aM dH,cB dH,cE dH,cR dH] 5,aU [aG eU,aM eU,cB eU,cE eU,cR eU] 5]).bind λ gF=>(R2 [.agg (.ints .u64 (List.take 5 (List.drop 5 [a,b,c,d,e,f,g,h,i,j,k,l,m,n,o,p,q,r,s,t]))) 5,.agg (.ints .u64 (List.take 5 (List.drop 0 [a,b,c,d,e,f,g,h,i,j,k,l,m,n,o,p,q,r,s,t]))) 5]).bind λ gT=>(R2 [.agg (.ints .u64 (List.take 5 (List.drop 5 [a',b',c',d',e',f',g',h',i',j',k',l',m',n',o',p',q',r',s',t']))) 5,.agg (.ints .u64 (List.take 5 (List.drop 0 [a',b',c',d',e',f',g',h',i',j',k',l',m',n',o',p',q',r',s',t']))) 5]).bind λ gJ=>(R1 [aU [bC gT,bW gT,dW gT,eT gT,eX gT] 5,aU [bC gJ,bW gJ,dW gJ,eT gJ,eX gJ] 5]).bind λ kA=>(R1 [.agg (.ints .u64 (List.take 5 (List.drop 15 [a,b,c,d,e,f,g,h,i,j,k,l,m,n,o,p,q,r,s,t]))) 5,aU [u0,u1,u2,u3,u4] 5]).bind λ vI=>(R1 [aU [aN vI,bI vI,gV vI,gW vI,iL vI] 5,.agg (.ints .u64 (List.take 5 (List.drop 15 [a',b',c',d',e',f',g',h',i',j',k',l',m',n',o',p',q',r',s',t']))) 5]).bind λ tP=>(R2 [.agg (.ints .u64 (List.take 5 (List.drop 10 [a,b,c,d,e,f,g,h,i,j,k,l,m,n,o,p,q,r,s,t]))) 5,.agg (.ints .u64 (List.take 5 (List.drop 10 [a,b,c,d,e,f,g,h,i,j,k,l,m,n,o,p,q,r,s,t]))) 5]).bind λ t=>(R1 [aU [bC t,bW t,dW t,eT t,eX t] 5,.agg (.ints .u64 (List.take 5 (List.drop 10 [a',b',c',d',e',f',g',h',i',j',k',l',m',n',o',p',q',r',s',t']))) 5]).bind λ t=>(R0 [aU [aN kA,bI kA,gV kA,gW kA,iL kA] 5,aU [aN gF,bI gF,gV gF,gW gF,iL gF] 5]).bind λ tQ=>(R0 [aU [aN t,bI t,gV t,gW t,iL t] 5,aU [aN tP,bI tP,gV tP,gW tP,iL tP] 5]).bind λ gX=>(R2 [aU [aN t,bI t,gV t,gW t,iL t] 5,aU [aN tP,bI tP,gV tP,gW tP,iL tP] 5]).bind λ t=>(R2 [aU [aN kA,bI kA,gV kA,gW kA,iL kA] 5,aU [aN gF,bI gF,gV gF,gW gF,iL gF] 5]).bind λ gM=>(R3 [aU [aG tQ,aM tQ,cB tQ,cE tQ,cR tQ] 5,aU [aG gX,aM gX,cB gX,cE gX,cR gX] 5,aU [bC t,bW t,dW t,eT t,eX t] 5,aU [bC gM,bW gM,dW gM,eT gM,eX gM] 5]).bind λ t=>some (AV.agg (.ints .u64 (bO t)) 20):=by kernel_rfl
end
section
variable (T0:Type) (R0:FA T0) (T1:Type) (R1:FA T1) (aN bI gV gW iL:T1->Int) (T2:Type) (R2:FA T2) (bC:T2->List Int)
def aPX:Cg:=⟨⟨dD [(118,⟨R0,λ t=>AV.agg (.ints .u64 ([929955233495203,466365720129213,1662059464998953,2033849074728123,1442794654840575])) 5⟩),(75,⟨R1,λ t=>aU [(aN t),(bI t),(gV t),(gW t),(iL t)] 5⟩),(124,⟨R2,λ t=>AV.agg (.ints .u64 (bC t)) 20⟩)],[],dS⟩,[]⟩
theorem aWm (fu:Nat) (a b c d e f g h i j k l m n o p q r s t a' b' c' d' e' f' g' h' i' j' k' l' m' n' o' p' q' r' s' t':Int):bB prog Tryz.f215 (aPX T0 R0 T1 R1 aN bI gV gW iL T2 R2 bC) fu [aU [a,b,c,d,e,f,g,h,i,j,k,l,m,n,o,p,q,r,s,t] 20,aU [a',b',c',d',e',f',g',h',i',j',k',l',m',n',o',p',q',r',s',t'] 20]=(R0 []).bind λ dH=>(R0 []).bind λ eU=>(R1 [aU [929955233495203,466365720129213,1662059464998953,2033849074728123,1442794654840575] 5,aU [929955233495203,466365720129213,1662059464998953,2033849074728123,1442794654840575] 5]).bind λ gF=>(R2 [aU [a,b,c,d,e,f,g,h,i,j,k,l,m,n,o,p,q,r,s,t] 20,aU [a',b',c',d',e',f',g',h',i',j',k',l',m',n',o',p',q',r',s',t'] 20,aU [aN gF,bI gF,gV gF,gW gF,iL gF] 5]).bind λ t=>some (AV.agg (.ints .u64 (bC t)) 20):=by kernel_rfl
end
section
variable (T0:Type) (R0:FA T0) (aG aM cB cE cR:T0->Int) (T1:Type) (R1:FA T1) (aN bI gV gW iL:T1->Int) (T2:Type) (R2:FA T2) (bC bW dW eT eX:T2->Int) (T3:Type) (R3:FA T3) (bO:T3->List Int)
def aPY:Cg:=⟨⟨dD [(80,⟨R0,λ t=>aU [(aG t),(aM t),(cB t),(cE t),(cR t)] 5⟩),(75,⟨R1,λ t=>aU [(aN t),(bI t),(gV t),(gW t),(iL t)] 5⟩),(77,⟨R2,λ t=>aU [(bC t),(bW t),(dW t),(eT t),(eX t)] 5⟩),(159,⟨R3,λ t=>AV.agg (.ints .u64 (bO t)) 20⟩)],[],dS⟩,[]⟩
theorem aWn (fu:Nat) (a b c d e f g h i j k l m n o p q r s t:Int):bB prog Tryz.f123 (aPY T0 R0 aG aM cB cE cR T1 R1 aN bI gV gW iL T2 R2 bC bW dW eT eX T3 R3 bO) fu [aU [a,b,c,d,e,f,g,h,i,j,k,l,m,n,o,p,q,r,s,t] 20]=(R0 [.agg (.ints .u64 (List.take 5 (List.drop 0 [a,b,c,d,e,f,g,h,i,j,k,l,m,n,o,p,q,r,s,t]))) 5]).bind λ dH=>(R0 [.agg (.ints .u64 (List.take 5 (List.drop 5 [a,b,c,d,e,f,g,h,i,j,k,l,m,n,o,p,q,r,s,t]))) 5]).bind λ eU=>(R0 [.agg (.ints .u64 (List.take 5 (List.drop 10 [a,b,c,d,e,f,g,h,i,j,k,l,m,n,o,p,q,r,s,t]))) 5]).bind λ gF=>(R1 [aU [aG dH,aM dH,cB dH,cE dH,cR dH] 5,aU [aG eU,aM eU,cB eU,cE eU,cR eU] 5]).bind λ gT=>(R2 [aU [aG dH,aM dH,cB dH,cE dH,cR dH] 5,aU [aG eU,aM eU,cB eU,cE eU,cR eU] 5]).bind λ gJ=>(R1 [.agg (.ints .u64 (List.take 5 (List.drop 0 [a,b,c,d,e,f,g,h,i,j,k,l,m,n,o,p,q,r,s,t]))) 5,.agg (.ints .u64 (List.take 5 (List.drop 5 [a,b,c,d,e,f,g,h,i,j,k,l,m,n,o,p,q,r,s,t]))) 5]).bind λ t=>(R0 [aU [aN t,bI t,gV t,gW t,iL t] 5]).bind λ t=>(R2 [aU [aN gT,bI gT,gV gT,gW gT,iL gT] 5,aU [aG t,aM t,cB t,cE t,cR t] 5]).bind λ t=>(R1 [aU [aG gF,aM gF,cB gF,cE gF,cR gF] 5,aU [aG gF,aM gF,cB gF,cE gF,cR gF] 5]).bind λ kA=>(R1 [aU [aN kA,bI kA,gV kA,gW kA,iL kA] 5,aU [bC gJ,bW gJ,dW gJ,eT gJ,eX gJ] 5]).bind λ vI=>(R3 [aU [bC t,bW t,dW t,eT t,eX t] 5,aU [aN vI,bI vI,gV vI,gW vI,iL vI] 5,aU [bC gJ,bW gJ,dW gJ,eT gJ,eX gJ] 5,aU [aN gT,bI gT,gV gT,gW gT,iL gT] 5]).bind λ t=>some (AV.agg (.ints .u64 (bO t)) 20):=by kernel_rfl
end
section
variable (T0:Type) (R0:FA T0) (aG aM cB cE cR:T0->Int)
end
section
variable (T0:Type) (R0:FA T0) (aG aM cB cE cR:T0->Int) (T1:Type) (R1:FA T1) (aN bI gV gW iL:T1->Int)
end
section
variable (T0:Type) (R0:FA T0) (aG aM cB cE cR:T0->Int) (T1:Type) (R1:FA T1) (aN:T1->Bool)
end
section
variable (T0:Type) (R0:FA T0) (aG:T0->List Int) (aM:T0->Nat) (T1:Type) (R1:FA T1) (aN:T1->List Int) (bI:T1->Nat) (T2:Type) (R2:FA T2) (bC:T2->List Int) (bW:T2->Nat) (T3:Type) (R3:FA T3) (bO:T3->List Int) (cI:T3->Nat)
def aPZ:Cg:=⟨⟨dD [(42,⟨R0,λ t=>AV.s (dI (aG t) (aM t))⟩),(41,⟨R1,λ t=>AV.s (dI (aN t) (bI t))⟩),(43,⟨R2,λ t=>AV.s (dI (bC t) (bW t))⟩),(40,⟨R3,λ t=>AV.s (dI (bO t) (cI t))⟩)],[],dS⟩,[]⟩
theorem aWo (fu:Nat):bB prog Tryz.f23 (aPZ T0 R0 aG aM T1 R1 aN bI T2 R2 bC bW T3 R3 bO cI) fu []=(R0 [.int .u64 121665]).bind λ t=>(R1 [.s (dI [] 0),.s (dI (aG t) (aM t))]).bind λ t=>(R0 [.int .u64 121666]).bind λ dH=>(R2 [.s (dI (aG dH) (aM dH))]).bind λ eU=>(R3 [.s (dI (aN t) (bI t)),.s (dI (bC eU) (bW eU))]).bind λ t=>some (AV.s (dI (bO t) (cI t))):=by kernel_rfl
end
section
variable (T0:Type) (R0:FA T0) (T1:Type) (R1:FA T1) (T2:Type) (R2:FA T2) (bC:T2->List Int) (T3:Type) (R3:FA T3) (bO:T3->List Int) (T4:Type) (R4:FA T4) (eV:T4->List Int) (T5:Type) (R5:FA T5) (fW:T5->List Int) (T6:Type) (R6:FA T6) (oH:T6->Bool) (T7:Type) (R7:FA T7) (xB:T7->List Int) (T8:Type) (R8:FA T8) (vL wY Bt KE KF:T8->Int) (T9:Type) (R9:FA T9) (zE Cy L7 L8 L9:T9->Int) (So:Type) (R10:FA So) (Av:So->Bool)
end
set_option maxRecDepth 4000
def qF (p:Pt):Prop:=cN p.x /\ cN p.y /\ cN p.z /\ cN p.t
theorem Ai {T:Type} {F:Pt->T} {args:List AV} {t:T} (h:EC F args=some t):∃ p,args=[eP p] /\ qF p /\ t=F p:=by
 unfold EC at h;split at h
 ·obtain ⟨h1,h2⟩:=cC h;simp only [aX] at h1;obtain ⟨x,rfl,rfl,rfl,rfl,rfl,hx,ex⟩:=eI h1.1;obtain ⟨y,rfl,rfl,rfl,rfl,rfl,hy,ey⟩:=eI h1.2.1;obtain ⟨z,rfl,rfl,rfl,rfl,rfl,hz,ez⟩:=eI h1.2.2.1;obtain ⟨w,rfl,rfl,rfl,rfl,rfl,hw,ew⟩:=eI h1.2.2.2;rw [ex,ey,ez,ew] at h2;exact ⟨⟨x,y,z,w⟩,rfl,⟨hx,hy,hz,hw⟩,h2.symm⟩
 ·cases h
theorem Jw {T:Type} {F:Pt->Pt->T} {args:List AV} {t:T} (h:Lc F args=some t):∃ p q,args=[eP p,eP q] /\ qF p /\ qF q /\ t=F p q:=by
 unfold Lc at h;split at h
 ·obtain ⟨h1,h2⟩:=cC h;simp only [aX] at h1;obtain ⟨x,rfl,rfl,rfl,rfl,rfl,hx,ex⟩:=eI h1.1.1;obtain ⟨y,rfl,rfl,rfl,rfl,rfl,hy,ey⟩:=eI h1.1.2.1;obtain ⟨z,rfl,rfl,rfl,rfl,rfl,hz,ez⟩:=eI h1.1.2.2.1;obtain ⟨w,rfl,rfl,rfl,rfl,rfl,hw,ew⟩:=eI h1.1.2.2.2;obtain ⟨x',rfl,rfl,rfl,rfl,rfl,hx',ex'⟩:=eI h1.2.1;obtain ⟨y',rfl,rfl,rfl,rfl,rfl,hy',ey'⟩:=eI h1.2.2.1;obtain ⟨z',rfl,rfl,rfl,rfl,rfl,hz',ez'⟩:=eI h1.2.2.2.1;obtain ⟨w',rfl,rfl,rfl,rfl,rfl,hw',ew'⟩:=eI h1.2.2.2.2;rw [ex,ey,ez,ew,ex',ey',ez',ew'] at h2;exact ⟨⟨x,y,z,w⟩,⟨x',y',z',w'⟩,rfl,⟨hx,hy,hz,hw⟩,⟨hx',hy',hz',hw'⟩,h2.symm⟩
 ·cases h
theorem aAL {T:Type} {F:Pt->Pt->Fe->T} {args:List AV} {t:T} (h:JL F args=some t):∃ p q u,args=[eP p,eP q,eF u] /\ qF p /\ qF q /\ cN u /\ t=F p q u:=by
 unfold JL at h;split at h
 ·obtain ⟨h1,h2⟩:=cC h;simp only [aX] at h1;obtain ⟨x,rfl,rfl,rfl,rfl,rfl,hx,ex⟩:=eI h1.1.1.1;obtain ⟨y,rfl,rfl,rfl,rfl,rfl,hy,ey⟩:=eI h1.1.1.2.1;obtain ⟨z,rfl,rfl,rfl,rfl,rfl,hz,ez⟩:=eI h1.1.1.2.2.1;obtain ⟨w,rfl,rfl,rfl,rfl,rfl,hw,ew⟩:=eI h1.1.1.2.2.2;obtain ⟨x',rfl,rfl,rfl,rfl,rfl,hx',ex'⟩:=eI h1.1.2.1;obtain ⟨y',rfl,rfl,rfl,rfl,rfl,hy',ey'⟩:=eI h1.1.2.2.1;obtain ⟨z',rfl,rfl,rfl,rfl,rfl,hz',ez'⟩:=eI h1.1.2.2.2.1;obtain ⟨w',rfl,rfl,rfl,rfl,rfl,hw',ew'⟩:=eI h1.1.2.2.2.2;obtain ⟨u,rfl,rfl,rfl,rfl,rfl,hu,eu⟩:=eI h1.2;rw [ex,ey,ez,ew,ex',ey',ez',ew',eu] at h2;exact ⟨⟨x,y,z,w⟩,⟨x',y',z',w'⟩,u,rfl,⟨hx,hy,hz,hw⟩,⟨hx',hy',hz',hw'⟩,hu,h2.symm⟩
 ·cases h
theorem SQ {T:Type} {F:Fe->Fe->Fe->Fe->T} {args:List AV} {t:T} (h:Ld F args=some t):∃ x y z w,args=[eF x,eF y,eF z,eF w] /\ cN x /\ cN y /\ cN z /\ cN w /\ t=F x y z w:=by
 unfold Ld at h;split at h
 ·obtain ⟨h1,h2⟩:=cC h;simp only [aX] at h1;obtain ⟨x,rfl,rfl,rfl,rfl,rfl,hx,ex⟩:=eI h1.1;obtain ⟨y,rfl,rfl,rfl,rfl,rfl,hy,ey⟩:=eI h1.2.1;obtain ⟨z,rfl,rfl,rfl,rfl,rfl,hz,ez⟩:=eI h1.2.2.1;obtain ⟨w,rfl,rfl,rfl,rfl,rfl,hw,ew⟩:=eI h1.2.2.2;rw [ex,ey,ez,ew] at h2;exact ⟨x,y,z,w,rfl,hx,hy,hz,hw,h2.symm⟩
 ·cases h
theorem Jy {T:Type} (F:Pt->T) {p:Pt} (h:qF p):EC F [eP p]=some (F p):=by
 obtain ⟨x,y,z,w⟩:=p;obtain ⟨h1,h2,h3,h4⟩:=h;simp only [EC,eP];rw [eJ h1,eJ h2,eJ h3,eJ h4]; rfl
theorem aHl {T:Type} (F:Pt->Pt->T) {p q:Pt} (h:qF p) (k:qF q):Lc F [eP p,eP q]=some (F p q):=by
 obtain ⟨x,y,z,w⟩:=p;obtain ⟨h1,h2,h3,h4⟩:=h;obtain ⟨x',y',z',w'⟩:=q;obtain ⟨k1,k2,k3,k4⟩:=k;simp only [Lc,eP];rw [eJ h1,eJ h2,eJ h3,eJ h4,eJ k1,eJ k2,eJ k3,eJ k4]; rfl
theorem aNk {T:Type} (F:Pt->Pt->Fe->T) {p q:Pt} {u:Fe} (h:qF p) (k:qF q) (hu:cN u):JL F [eP p,eP q,eF u]=some (F p q u):=by
 obtain ⟨x,y,z,w⟩:=p;obtain ⟨h1,h2,h3,h4⟩:=h;obtain ⟨x',y',z',w'⟩:=q;obtain ⟨k1,k2,k3,k4⟩:=k;simp only [JL,eP,eF];rw [eJ h1,eJ h2,eJ h3,eJ h4,eJ k1,eJ k2,eJ k3,eJ k4,eJ hu]; rfl
theorem aHm {T:Type} (F:Fe->Fe->Fe->Fe->T) {x y z w:Fe} (h1:cN x) (h2:cN y) (h3:cN z) (h4:cN w):Ld F [eF x,eF y,eF z,eF w]=some (F x y z w):=by
 simp only [Ld,eF];rw [eJ h1,eJ h2,eJ h3,eJ h4]; rfl
theorem SR {x y:Fe} (hx:cN x) (hy:cN y):qF (Cm x y):=⟨hx,hy,cV 1,aL hx hy⟩
theorem YO {e f g h:Fe} (he:cN e) (hf:cN f) (hg:cN g) (hh:cN h):qF (JO e f g h):=⟨aL he hf,aL hg hh,aL hf hg,aL he hh⟩
theorem Oz {p q:Pt} {u:Fe} (hp:qF p) (hq:qF q) (hu:cN u):qF (Cn p q u):=by
 obtain ⟨h1,h2,h3,h4⟩:=hp;obtain ⟨k1,k2,k3,k4⟩:=hq;have a:=aL (x:=cJ p.y p.x) (y:=cJ q.y q.x) (cL h2) (cL k2);have b:=aL (cD h2 h1) (cD k2 k1);have c:=aL (aL h4 hu) k4;have d:=aL (cD h3 h3) k3;exact YO (cL b) (cL d) (cD d c) (cD b a)
theorem uN:cN dF:=cV _
theorem Lw:cN FT:=cD uN uN
theorem Hg {p:Pt} (hp:qF p):qF (Gs p):=by
 obtain ⟨h1,h2,h3,h4⟩:=hp;have a:=aL h1 h1;have b:=aL h2 h2;have z:=aL h3 h3;have s:=cD h1 h2;exact YO (cL (cD a b)) (cD (cD z z) (cL a)) (cL a) (cD a b)
theorem Ea:qF gZ:=SR (cV 0) (cV 1)
where inv_okC {x:Fe} (hx:cN x):cN (aQI x):=S5 hx (cV 1)
abbrev aZh:Cg:=aZf (Fe) B7 (λ t=>↑t.a) (λ t=>↑t.b) (λ t=>↑t.c) (λ t=>↑t.d) (λ t=>↑t.e)
theorem aWp:CfOk prog aZh.c:=gk <| aA G5 <| aK
def aZi:Str:=[51,55,48,57,53,55,48,53,57,51,52,54,54,57,52,51,57,51,52,51,49,51,56,48,56,51,53,48,56,55,53,52,53,54,53,49,56,57,53,52,50,49,49,51,56,55,57,56,52,51,50,49,57,48,49,54,51,56,56,55,56,53,53,51,51,48,56,53,57,52,48,50,56,51,53,53,53]
theorem aHn:(AR aZi).1%aJ=37095705934669439343138083508754565189542113879843219016388785533085940283555:=by decide +kernel
theorem SS:CallOk prog 118 sCD:=by
 refine i4 aWp Tryz.func118 ?_;intro args t ht;unfold sCD at ht;simp only at ht;split at ht
 ·refine (aZg ..).trans ?_;have d:=nF (s:=aZi) (by decide +kernel);rw [aHn] at d;refine (dQ (λ o=>Option.bind o _) d).trans ?_;rfl
 ·cases ht
abbrev aWq:Cg:=aPT (Fe) MP (λ t=>↑t.a) (λ t=>↑t.b) (λ t=>↑t.c) (λ t=>↑t.d) (λ t=>↑t.e) (Fe) iB (λ t=>↑t.a) (λ t=>↑t.b) (λ t=>↑t.c) (λ t=>↑t.d) (λ t=>↑t.e)
theorem aNl:CfOk prog aWq.c:=gk <| aA CU <| aA nD <| aK
theorem ST:CallOk prog 146 OC:=by
 refine i4 aNl Tryz.func146 ?_;intro args t ht;obtain ⟨x,y,rfl,hx,hy,rfl⟩:=vW (F:=Cm) ht;have o1:=xJ (n:=1) (by decide);rw [show ((1:Nat):Int)=1 from rfl] at o1;have m:=bF hx hy;simp only [eF] at m;refine (aWi ..).trans ?_;rw [o1,aC,m,aC];rfl
theorem aAM {x y:Fe} (hx:cN x) (hy:cN y):UN [eF x,eF y]=some (Cm x y):=by
 simp only [UN,OC]; exact Ew Cm hx hy
abbrev aWr:Cg:=aPU (Fe) MP (λ t=>↑t.a) (λ t=>↑t.b) (λ t=>↑t.c) (λ t=>↑t.d) (λ t=>↑t.e) (Pt) UN (λ t=>[↑t.x.a,↑t.x.b,↑t.x.c,↑t.x.d,↑t.x.e,↑t.y.a,↑t.y.b,↑t.y.c,↑t.y.d,↑t.y.e,↑t.z.a,↑t.z.b,↑t.z.c,↑t.z.d,↑t.z.e,↑t.t.a,↑t.t.b,↑t.t.c,↑t.t.d,↑t.t.e])
theorem aNm:CfOk prog aWr.c:=gk <| aA CU <| aA ST <| aK
theorem O0:CallOk prog 109 JM:=by
 refine i4 aNm Tryz.func109 ?_;intro args t ht;unfold JM Gr at ht;simp only at ht;split at ht
 ·cases ht;have o0:=xJ (n:=0) (by decide);have o1:=xJ (n:=1) (by decide);rw [show ((1:Nat):Int)=1 from rfl] at o1;rw [show ((0:Nat):Int)=0 from rfl] at o0;have m:=aAM (cV 0) (cV 1);simp only [eF] at m;refine (aWj ..).trans ?_;rw [o0,aC,o1,aC,m,aC];rfl
 ·cases ht
theorem Aj:JN []=some gZ:=rfl
abbrev aWs:Cg:=aPV (Fe) iB (λ t=>↑t.a) (λ t=>↑t.b) (λ t=>↑t.c) (λ t=>↑t.d) (λ t=>↑t.e)
theorem aNn:CfOk prog aWs.c:=gk <| aA nD <| aK
theorem aP0:CallOk prog 159 sJn:=by
 refine i4 aNn Tryz.func159 ?_;intro args t ht;obtain ⟨e,f,g,h,rfl,he,hf,hg,hh,rfl⟩:=SQ (F:=JO) ht;have m1:=bF he hf;have m2:=bF hg hh;have m3:=bF hf hg;have m4:=bF he hh;simp only [eF] at m1 m2 m3 m4;refine (aWk ..).trans ?_;rw [m1,aC,m2,aC,m3,aC,m4,aC];rfl
theorem aHo {e f g h:Fe} (he:cN e) (hf:cN f) (hg:cN g) (hh:cN h):rJn [eF e,eF f,eF g,eF h]=some (JO e f g h):=by
 simp only [rJn,sJn]; exact aHm JO he hf hg hh
abbrev aWt:Cg:=aPW (Fe) vQ (λ t=>↑t.a) (λ t=>↑t.b) (λ t=>↑t.c) (λ t=>↑t.d) (λ t=>↑t.e) (Fe) iB (λ t=>↑t.a) (λ t=>↑t.b) (λ t=>↑t.c) (λ t=>↑t.d) (λ t=>↑t.e) (Fe) tU (λ t=>↑t.a) (λ t=>↑t.b) (λ t=>↑t.c) (λ t=>↑t.d) (λ t=>↑t.e) (Pt) rJn (λ t=>[↑t.x.a,↑t.x.b,↑t.x.c,↑t.x.d,↑t.x.e,↑t.y.a,↑t.y.b,↑t.y.c,↑t.y.d,↑t.y.e,↑t.z.a,↑t.z.b,↑t.z.c,↑t.z.d,↑t.z.e,↑t.t.a,↑t.t.b,↑t.t.c,↑t.t.d,↑t.t.e])
theorem aNo:CfOk prog aWt.c:=gk <| aA xK <| aA nD <| aA tV <| aA aP0 <| aK
theorem U3:CallOk prog 124 aLW:=by
 refine i4 aNo Tryz.func124 ?_;intro args t ht;obtain ⟨p,q,u,rfl,⟨h1,h2,h3,h4⟩,⟨k1,k2,k3,k4⟩,hu,rfl⟩:=aAL (F:=Cn) ht;have s1:=gP h2 h1;have s2:=gP k2 k1;have m1:=bF (x:=cJ p.y p.x) (y:=cJ q.y q.x) (cL h2) (cL k2);have a1:=fM h2 h1;have a2:=fM k2 k1;have m2:=bF (cD h2 h1) (cD k2 k1);have m3:=bF h4 hu;have m4:=bF (aL h4 hu) k4;have a3:=fM h3 h3;have m5:=bF (cD h3 h3) k3;have ka:=aL (x:=cJ p.y p.x) (y:=cJ q.y q.x) (cL h2) (cL k2);have kb:=aL (cD h2 h1) (cD k2 k1);have kc:=aL (aL h4 hu) k4;have kd:=aL (cD h3 h3) k3;have s3:=gP kb ka;have s4:=gP kd kc;have a4:=fM kd kc;have a5:=fM kb ka;have j:=aHo (cL (y:=aO (cJ p.y p.x) (cJ q.y q.x)) kb) (cL (y:=aO (aO p.t u) q.t) kd) (cD kd kc) (cD kb ka);simp only [eF] at s1 s2 m1 a1 a2 m2 m3 m4 a3 m5 s3 s4 a4 a5 j;refine (aWl ..).trans ?_;simp only [PH,kU,yT,uR];rw [s1,aC,s2,aC,m1,aC,a1,aC,a2,aC,m2,aC,m3,aC,m4,aC,a3,aC,m5,aC,s3,aC,s4,aC,a4,aC,a5,aC,j,aC];rfl
theorem YP {p q:Pt} {u:Fe} (h:qF p) (k:qF q) (hu:cN u):Z4 [eP p,eP q,eF u]=some (Cn p q u):=by
 simp only [Z4,aLW]; exact aNk Cn h k hu
theorem YQ:eF dF=AV.agg (.ints .u64 [929955233495203,466365720129213,1662059464998953,2033849074728123,1442794654840575]) 5:=by kernel_rfl
abbrev aWu:Cg:=aPX (PUnit) rCD (Fe) tU (λ t=>↑t.a) (λ t=>↑t.b) (λ t=>↑t.c) (λ t=>↑t.d) (λ t=>↑t.e) (Pt) Z4 (λ t=>[↑t.x.a,↑t.x.b,↑t.x.c,↑t.x.d,↑t.x.e,↑t.y.a,↑t.y.b,↑t.y.c,↑t.y.d,↑t.y.e,↑t.z.a,↑t.z.b,↑t.z.c,↑t.z.d,↑t.z.e,↑t.t.a,↑t.t.b,↑t.t.c,↑t.t.d,↑t.t.e])
theorem aNp:CfOk prog aWu.c:=gk <| aA SS <| aA tV <| aA U3 <| aK
theorem aNq:CallOk prog 215 Xb:=by
 refine i4 aNp Tryz.func215 ?_;intro args t ht;obtain ⟨p,q,rfl,hp,hq,rfl⟩:=Jw (F:=λ p q=>Cn p q FT) ht;have a:=fM uN uN;rw [YQ] at a;have m:=YP hp hq Lw;simp only [eP,eF] at m;refine (aWm ..).trans ?_;rw [show rCD []=some () from rfl,aC,aC,a,aC];refine (dQ (λ o=>Option.bind o _) m).trans ?_;rfl
theorem SU {p q:Pt} (h:qF p) (k:qF q):Xc [eP p,eP q]=some (Cn p q FT):=by
 simp only [Xc,Xb]; exact aHl (λ p q=>Cn p q FT) h k
set_option maxRecDepth 4000
abbrev aWv:Cg:=aPY (Fe) MR (λ t=>↑t.a) (λ t=>↑t.b) (λ t=>↑t.c) (λ t=>↑t.d) (λ t=>↑t.e) (Fe) tU (λ t=>↑t.a) (λ t=>↑t.b) (λ t=>↑t.c) (λ t=>↑t.d) (λ t=>↑t.e) (Fe) vQ (λ t=>↑t.a) (λ t=>↑t.b) (λ t=>↑t.c) (λ t=>↑t.d) (λ t=>↑t.e) (Pt) rJn (λ t=>[↑t.x.a,↑t.x.b,↑t.x.c,↑t.x.d,↑t.x.e,↑t.y.a,↑t.y.b,↑t.y.c,↑t.y.d,↑t.y.e,↑t.z.a,↑t.z.b,↑t.z.c,↑t.z.d,↑t.z.e,↑t.t.a,↑t.t.b,↑t.t.c,↑t.t.d,↑t.t.e])
theorem aNr:CfOk prog aWv.c:=gk <| aA CW <| aA tV <| aA xK <| aA aP0 <| aK
theorem aWw:CallOk prog 123 aUp:=by
 refine i4 aNr Tryz.func123 ?_;intro args t ht;obtain ⟨p,rfl,⟨h1,h2,h3,h4⟩,rfl⟩:=Ai (F:=Gs) ht;have q1:=j0 h1;have q2:=j0 h2;have q3:=j0 h3;have ka:=aL h1 h1;have kb:=aL h2 h2;have kz:=aL h3 h3;have a1:=fM ka kb;have s1:=gP ka kb;have a2:=fM h1 h2;have q4:=j0 (cD h1 h2);have kq:=aL (cD h1 h2) (cD h1 h2);have s2:=gP (cD ka kb) kq;have a3:=fM kz kz;have ks:cN (cJ (aO p.x p.x) (aO p.y p.y)):=cL ka;have a4:=fM (cD kz kz) ks;have j:=aHo (cL (y:=aO (gC p.x p.y) (gC p.x p.y)) (cD ka kb)) (cD (cD kz kz) ks) ks (cD ka kb);simp only [eF] at q1 q2 q3 a1 s1 a2 q4 s2 a3 a4 j;refine (aWn ..).trans ?_;simp only [PH,kU,yT,uR];rw [q1,aC,q2,aC,q3,aC,a1,aC,s1,aC,a2,aC,q4,aC,s2,aC,a3,aC,a4,aC,j,aC];rfl
theorem aNs {p:Pt} (h:qF p):aFe [eP p]=some (Gs p):=by
 simp only [aFe,aUp]; exact Jy Gs h
set_option maxRecDepth 4000
theorem aWx {k j e:Nat} (he:e=aJ - 2) (hk:k*j%aJ=1) (hj:j < aJ):k ^ e%aJ=j:=by
 have h0:¬ cg (k:Int) 0:=λ h=>by
  have h1:=h.mul (cg.refl (j:Int));rw [yN,<-oA] at h1;have:=pG.1 h1;rw [hk] at this; cases this
 have hf:=A6 h0 (e+1) (by rw [he]; decide);rw [vF] at hf;have h1:cg ((k:Int)*(j:Int)) 1:=by
  have:=mH.2 (show k*j%aJ=1%aJ by rw [hk]; decide);rwa [oA] at this
 have h2:=hf.mul (cg.refl (j:Int));rw [Int.mul_assoc,rE] at h2;have h3:=((cg.refl ((k:Int) ^ e)).mul h1).symm;rw [Int.mul_one] at h3;have h4:=h3.trans h2;rw [<-J8] at h4;have:=mH.1 h4;rwa [aV hj] at this
abbrev dN:Nat:=37095705934669439343138083508754565189542113879843219016388785533085940283555
abbrev aWy:Cg:=aPZ (Nat) wR (λ t=>nb t) (λ t=>(nb t).length) (Nat) yY (λ t=>nb t) (λ t=>(nb t).length) (Nat) Ku (λ t=>nb t) (λ t=>(nb t).length) (Nat) oN (λ t=>nb t) (λ t=>(nb t).length)
theorem aNt:CfOk prog aWy.c:=gk <| aA GE <| aA DU <| aA Og <| aA tX <| aK
theorem aZj:CallOk prog 23 sRD:=by
 refine i4 aNt Tryz.func23 ?_;intro args t ht;unfold sRD Gr at ht;simp only at ht;split at ht
 ·have ht:=dG ht;subst ht;have s1:=xU (k:=121665) (by decide);have s2:=xU (k:=121666) (by decide);rw [show ((121665:Nat):Int)=121665 from rfl] at s1;rw [show ((121666:Nat):Int)=121666 from rfl] at s2;have n:=nI (x:=0) (y:=121665) (by decide) (by decide);rw [show (0+aJ - 121665)%aJ=57896044618658097711785492504343953926634992332820282019728792003956564698284 by decide] at n;have i:=Ry (x:=121666) (by decide);rw [aWx (k:=121666) (j:=37095705934669439343138083508754565189542113879843219016388785533085940283556) rfl (by decide) (by decide)] at i;have m:=bJ (x:=57896044618658097711785492504343953926634992332820282019728792003956564698284) (y:=37095705934669439343138083508754565189542113879843219016388785533085940283556) (by decide) (by decide);rw [show 57896044618658097711785492504343953926634992332820282019728792003956564698284*37095705934669439343138083508754565189542113879843219016388785533085940283556%aJ=dN by decide] at m;simp only [eN] at n i m;refine (aWo ..).trans ?_;rw [s1,aC];refine (dQ (λ o=>Option.bind o _) n).trans ?_;rw [aC,s2,aC,i,aC,m,aC];rfl
 ·cases ht
theorem aWz:rRD []=some dN:=rfl
theorem aNu:(fv (fe 1):Int)=1:=by decide +kernel
theorem aNv:kJ (aQI (fe 1)) (fe 1)=true:=by decide +kernel
theorem mul_one {x:Fe} (hx:cN x):kJ (aO x (aQI (fe 1))) x=true:=by
 refine Dg.2 ((gK x _).trans (((cg.refl _).mul (Dg.1 aNv)).trans ?_));rw [aNu,Int.mul_one];exact cg.refl _
theorem SW (n:Nat):fR (lo 32 n)=true:=by rw [fR,i7,tJ]; rfl
end
end Go.Eng
