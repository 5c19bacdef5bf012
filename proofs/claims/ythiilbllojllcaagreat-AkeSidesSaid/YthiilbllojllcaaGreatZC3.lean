import Derived.Test.YthiilbllojllcaaGreatZC2
import Derived.Test.YthiilbllojllcaaGreatZF4
import Derived.Test.YthiilbllojllcaaGreatZF9
namespace Go.Eng
noncomputable section
open Go Go.Proofs
set_option linter.all false
section
variable (T0:Type) (R0:FA T0) (aG aO cE cI cP:T0->Int)
def bHM:Cg:=⟨⟨cV [(77,⟨R0,λ t=>aU [(aG t),(aO t),(cE t),(cI t),(cP t)] 5⟩)],[],cX⟩,[]⟩
theorem bHN (fu:Nat):aS prog Tryz.f69 (bHM T0 R0 aG aO cE cI cP) fu []=(R0 [.str ([(51:UInt8),55,48,57,53,55,48,53,57,51,52,54,54,57,52,51,57,51,52,51,49,51,56,48,56,51,53,48,56,55,53,52,53,54,53,49,56,57].append [(53:UInt8),52,50,49,49,51,56,55,57,56,52,51,50,49,57,48,49,54,51,56,56,55,56,53,53,51,51,48,56,53,57,52,48,50,56,51,53,53,53])]).bind λ t=>some (aU [aG t,aO t,cE t,cI t,cP t] 5):=by kernel_rfl
end
section
variable (T0:Type) (R0:FA T0) (aG aO cE cI cP:T0->Int) (T1:Type) (R1:FA T1) (aM bK iH iI iP:T1->Int)
def aX7:Cg:=⟨⟨cV [(32,⟨R0,λ t=>aU [(aG t),(aO t),(cE t),(cI t),(cP t)] 5⟩),(29,⟨R1,λ t=>aU [(aM t),(bK t),(iH t),(iI t),(iP t)] 5⟩)],[],cX⟩,[]⟩
theorem bE9 (fu:Nat) (a b c d e f g h i j:Int):aS prog Tryz.f70 (aX7 T0 R0 aG aO cE cI cP T1 R1 aM bK iH iI iP) fu [aU [a,b,c,d,e] 5,aU [f,g,h,i,j] 5]=(R0 [.int .u64 1]).bind λ t=>(R1 [aU [a,b,c,d,e] 5,aU [f,g,h,i,j] 5]).bind λ bY=>some (AV.agg (.ints .u64 ([a,b,c,d,e]++([f,g,h,i,j]++([aG t,aO t,cE t,cI t,cP t]++[aM bY,bK bY,iH bY,iI bY,iP bY])))) 20):=by kernel_rfl
end
section
variable (T0:Type) (R0:FA T0) (aG aO cE cI cP:T0->Int) (T1:Type) (R1:FA T1) (aM:T1->List Int)
def aX8:Cg:=⟨⟨cV [(32,⟨R0,λ t=>aU [(aG t),(aO t),(cE t),(cI t),(cP t)] 5⟩),(70,⟨R1,λ t=>AV.agg (.ints .u64 (aM t)) 20⟩)],[],cX⟩,[]⟩
theorem bFa (fu:Nat):aS prog Tryz.f168 (aX8 T0 R0 aG aO cE cI cP T1 R1 aM) fu []=(R0 [.int .u64 0]).bind λ t=>(R0 [.int .u64 1]).bind λ bY=>(R1 [aU [aG t,aO t,cE t,cI t,cP t] 5,aU [aG bY,aO bY,cE bY,cI bY,cP bY] 5]).bind λ t=>some (AV.agg (.ints .u64 (aM t)) 20):=by kernel_rfl
end
section
variable (T0:Type) (R0:FA T0) (aG aO cE cI cP:T0->Int) (T1:Type) (R1:FA T1) (aM bK iH iI iP:T1->Int) (T2:Type) (R2:FA T2) (bE bU fD fJ fM:T2->Int) (T3:Type) (R3:FA T3) (bS eX oL vC vD:T3->Int) (T4:Type) (R4:FA T4) (dG jU z6 BE BF:T4->Int) (T5:Type) (R5:FA T5) (T6:Type) (R6:FA T6) (mF nP DU DV DW:T6->Int) (T7:Type) (R7:FA T7) (wU BI f7c f7d f7e:T7->Int) (f7f:T7->Bool) (T8:Type) (R8:FA T8) (tE:T8->List Int)
def aX9:Cg:=⟨⟨cV [(32,⟨R0,λ t=>aU [(aG t),(aO t),(cE t),(cI t),(cP t)] 5⟩),(68,⟨R1,λ t=>aU [(aM t),(bK t),(iH t),(iI t),(iP t)] 5⟩),(29,⟨R2,λ t=>aU [(bE t),(bU t),(fD t),(fJ t),(fM t)] 5⟩),(33,⟨R3,λ t=>aU [(bS t),(eX t),(oL t),(vC t),(vD t)] 5⟩),(30,⟨R4,λ t=>aU [(dG t),(jU t),(z6 t),(BE t),(BF t)] 5⟩),(69,⟨R5,λ t=>AV.agg (.ints .u64 ([929955233495203,466365720129213,1662059464998953,2033849074728123,1442794654840575])) 5⟩),(28,⟨R6,λ t=>aU [(mF t),(nP t),(DU t),(DV t),(DW t)] 5⟩),(31,⟨R7,λ t=>AV.tup [.s (.pl (.agg (.ints .u64 [(wU t),(BI t),(f7c t),(f7d t),(f7e t)]) 5)),.s (.pl (.bool (f7f t)))]⟩),(70,⟨R8,λ t=>AV.agg (.ints .u64 (tE t)) 20⟩)],[],cX⟩,[]⟩
theorem bFb (fu:Nat):aS prog Tryz.f26 (aX9 T0 R0 aG aO cE cI cP T1 R1 aM bK iH iI iP T2 R2 bE bU fD fJ fM T3 R3 bS eX oL vC vD T4 R4 dG jU z6 BE BF T5 R5 T6 R6 mF nP DU DV DW T7 R7 wU BI f7c f7d f7e f7f T8 R8 tE) fu []=(R0 [.int .u64 4]).bind λ t=>(R0 [.int .u64 5]).bind λ bY=>(R1 [aU [aG bY,aO bY,cE bY,cI bY,cP bY] 5]).bind λ cJ=>(R2 [aU [aG t,aO t,cE t,cI t,cP t] 5,aU [aM cJ,bK cJ,iH cJ,iI cJ,iP cJ] 5]).bind λ t=>(R0 [.int .u64 1]).bind λ fF=>(R3 [aU [bE t,bU t,fD t,fJ t,fM t] 5]).bind λ gA=>(R4 [aU [bS gA,eX gA,oL gA,vC gA,vD gA] 5,aU [aG fF,aO fF,cE fF,cI fF,cP fF] 5]).bind λ gC=>(R5 []).bind λ jJ=>(R3 [aU [bE t,bU t,fD t,fJ t,fM t] 5]).bind λ nR=>(R2 [aU [929955233495203,466365720129213,1662059464998953,2033849074728123,1442794654840575] 5,aU [bS nR,eX nR,oL nR,vC nR,vD nR] 5]).bind λ nQ=>(R6 [aU [bE nQ,bU nQ,fD nQ,fJ nQ,fM nQ] 5,aU [aG fF,aO fF,cE fF,cI fF,cP fF] 5]).bind λ qZ=>(R7 [aU [dG gC,jU gC,z6 gC,BE gC,BF gC] 5,aU [mF qZ,nP qZ,DU qZ,DV qZ,DW qZ] 5]).bind λ iJ=>(R8 [aU [wU iJ,BI iJ,f7c iJ,f7d iJ,f7e iJ] 5,aU [bE t,bU t,fD t,fJ t,fM t] 5]).bind λ t=>some (AV.agg (.ints .u64 (tE t)) 20):=by kernel_rfl
end
section
variable (T0:Type) (R0:FA T0) (aG aO cE cI cP:T0->Int)
def aYa:Cg:=⟨⟨cV [(29,⟨R0,λ t=>aU [(aG t),(aO t),(cE t),(cI t),(cP t)] 5⟩)],[],cX⟩,[]⟩
theorem bFc (fu:Nat) (a b c d e f g h i j k l m n o p q r s t:Int):aS prog Tryz.f190 (aYa T0 R0 aG aO cE cI cP) fu [aU [a,b,c,d,e] 5,aU [f,g,h,i,j] 5,aU [k,l,m,n,o] 5,aU [p,q,r,s,t] 5]=(R0 [aU [a,b,c,d,e] 5,aU [f,g,h,i,j] 5]).bind λ bY=>(R0 [aU [k,l,m,n,o] 5,aU [p,q,r,s,t] 5]).bind λ cJ=>(R0 [aU [f,g,h,i,j] 5,aU [k,l,m,n,o] 5]).bind λ fF=>(R0 [aU [a,b,c,d,e] 5,aU [p,q,r,s,t] 5]).bind λ t=>some (AV.agg (.ints .u64 ([aG bY,aO bY,cE bY,cI bY,cP bY]++([aG cJ,aO cJ,cE cJ,cI cJ,cP cJ]++([aG fF,aO fF,cE fF,cI fF,cP fF]++[aG t,aO t,cE t,cI t,cP t])))) 20):=by kernel_rfl
end
section
variable (T0:Type) (R0:FA T0) (aG aO cE cI cP:T0->Int) (T1:Type) (R1:FA T1) (aM bK iH iI iP:T1->Int) (T2:Type) (R2:FA T2) (bE bU fD fJ fM:T2->Int) (T3:Type) (R3:FA T3) (bS:T3->List Int)
def aYb:Cg:=⟨⟨cV [(30,⟨R0,λ t=>aU [(aG t),(aO t),(cE t),(cI t),(cP t)] 5⟩),(29,⟨R1,λ t=>aU [(aM t),(bK t),(iH t),(iI t),(iP t)] 5⟩),(28,⟨R2,λ t=>aU [(bE t),(bU t),(fD t),(fJ t),(fM t)] 5⟩),(190,⟨R3,λ t=>AV.agg (.ints .u64 (bS t)) 20⟩)],[],cX⟩,[]⟩
theorem bFd (fu:Nat) (a b c d e f g h i j k l m n o p q r s t a' b' c' d' e' f' g' h' i' j' k' l' m' n' o' p' q' r' s' t' u0 u1 u2 u3 u4:Int):aS prog Tryz.f171 (aYb T0 R0 aG aO cE cI cP T1 R1 aM bK iH iI iP T2 R2 bE bU fD fJ fM T3 R3 bS) fu [aU [a,b,c,d,e,f,g,h,i,j,k,l,m,n,o,p,q,r,s,t] 20,aU [a',b',c',d',e',f',g',h',i',j',k',l',m',n',o',p',q',r',s',t'] 20,aU [u0,u1,u2,u3,u4] 5]=(R0 [.agg (.ints .u64 (List.take 5 (List.drop 5 [a,b,c,d,e,f,g,h,i,j,k,l,m,n,o,p,q,r,s,t]))) 5,.agg (.ints .u64 (List.take 5 (List.drop 0 [a,b,c,d,e,f,g,h,i,j,k,l,m,n,o,p,q,r,s,t]))) 5]).bind λ bY=>(R0 [.agg (.ints .u64 (List.take 5 (List.drop 5 [a',b',c',d',e',f',g',h',i',j',k',l',m',n',o',p',q',r',s',t']))) 5,.agg (.ints .u64 (List.take 5 (List.drop 0 [a',b',c',d',e',f',g',h',i',j',k',l',m',n',o',p',q',r',s',t']))) 5]).bind λ cJ=>(R1 [aU [aG bY,aO bY,cE bY,cI bY,cP bY] 5,aU [aG cJ,aO cJ,cE cJ,cI cJ,cP cJ] 5]).bind λ fF=>(R2 [.agg (.ints .u64 (List.take 5 (List.drop 5 [a,b,c,d,e,f,g,h,i,j,k,l,m,n,o,p,q,r,s,t]))) 5,.agg (.ints .u64 (List.take 5 (List.drop 0 [a,b,c,d,e,f,g,h,i,j,k,l,m,n,o,p,q,r,s,t]))) 5]).bind λ gA=>(R2 [.agg (.ints .u64 (List.take 5 (List.drop 5 [a',b',c',d',e',f',g',h',i',j',k',l',m',n',o',p',q',r',s',t']))) 5,.agg (.ints .u64 (List.take 5 (List.drop 0 [a',b',c',d',e',f',g',h',i',j',k',l',m',n',o',p',q',r',s',t']))) 5]).bind λ gC=>(R1 [aU [bE gA,bU gA,fD gA,fJ gA,fM gA] 5,aU [bE gC,bU gC,fD gC,fJ gC,fM gC] 5]).bind λ jJ=>(R1 [.agg (.ints .u64 (List.take 5 (List.drop 15 [a,b,c,d,e,f,g,h,i,j,k,l,m,n,o,p,q,r,s,t]))) 5,aU [u0,u1,u2,u3,u4] 5]).bind λ nR=>(R1 [aU [aM nR,bK nR,iH nR,iI nR,iP nR] 5,.agg (.ints .u64 (List.take 5 (List.drop 15 [a',b',c',d',e',f',g',h',i',j',k',l',m',n',o',p',q',r',s',t']))) 5]).bind λ nQ=>(R2 [.agg (.ints .u64 (List.take 5 (List.drop 10 [a,b,c,d,e,f,g,h,i,j,k,l,m,n,o,p,q,r,s,t]))) 5,.agg (.ints .u64 (List.take 5 (List.drop 10 [a,b,c,d,e,f,g,h,i,j,k,l,m,n,o,p,q,r,s,t]))) 5]).bind λ t=>(R1 [aU [bE t,bU t,fD t,fJ t,fM t] 5,.agg (.ints .u64 (List.take 5 (List.drop 10 [a',b',c',d',e',f',g',h',i',j',k',l',m',n',o',p',q',r',s',t']))) 5]).bind λ t=>(R0 [aU [aM jJ,bK jJ,iH jJ,iI jJ,iP jJ] 5,aU [aM fF,bK fF,iH fF,iI fF,iP fF] 5]).bind λ qZ=>(R0 [aU [aM t,bK t,iH t,iI t,iP t] 5,aU [aM nQ,bK nQ,iH nQ,iI nQ,iP nQ] 5]).bind λ iJ=>(R2 [aU [aM t,bK t,iH t,iI t,iP t] 5,aU [aM nQ,bK nQ,iH nQ,iI nQ,iP nQ] 5]).bind λ t=>(R2 [aU [aM jJ,bK jJ,iH jJ,iI jJ,iP jJ] 5,aU [aM fF,bK fF,iH fF,iI fF,iP fF] 5]).bind λ i0=>(R3 [aU [aG qZ,aO qZ,cE qZ,cI qZ,cP qZ] 5,aU [aG iJ,aO iJ,cE iJ,cI iJ,cP iJ] 5,aU [bE t,bU t,fD t,fJ t,fM t] 5,aU [bE i0,bU i0,fD i0,fJ i0,fM i0] 5]).bind λ t=>some (AV.agg (.ints .u64 (bS t)) 20):=by kernel_rfl
end
section
variable (T0:Type) (R0:FA T0) (T1:Type) (R1:FA T1) (aM bK iH iI iP:T1->Int) (T2:Type) (R2:FA T2) (bE:T2->List Int)
def aYc:Cg:=⟨⟨cV [(69,⟨R0,λ t=>AV.agg (.ints .u64 ([929955233495203,466365720129213,1662059464998953,2033849074728123,1442794654840575])) 5⟩),(28,⟨R1,λ t=>aU [(aM t),(bK t),(iH t),(iI t),(iP t)] 5⟩),(171,⟨R2,λ t=>AV.agg (.ints .u64 (bE t)) 20⟩)],[],cX⟩,[]⟩
theorem bFe (fu:Nat) (a b c d e f g h i j k l m n o p q r s t a' b' c' d' e' f' g' h' i' j' k' l' m' n' o' p' q' r' s' t':Int):aS prog Tryz.f196 (aYc T0 R0 T1 R1 aM bK iH iI iP T2 R2 bE) fu [aU [a,b,c,d,e,f,g,h,i,j,k,l,m,n,o,p,q,r,s,t] 20,aU [a',b',c',d',e',f',g',h',i',j',k',l',m',n',o',p',q',r',s',t'] 20]=(R0 []).bind λ bY=>(R0 []).bind λ cJ=>(R1 [aU [929955233495203,466365720129213,1662059464998953,2033849074728123,1442794654840575] 5,aU [929955233495203,466365720129213,1662059464998953,2033849074728123,1442794654840575] 5]).bind λ fF=>(R2 [aU [a,b,c,d,e,f,g,h,i,j,k,l,m,n,o,p,q,r,s,t] 20,aU [a',b',c',d',e',f',g',h',i',j',k',l',m',n',o',p',q',r',s',t'] 20,aU [aM fF,bK fF,iH fF,iI fF,iP fF] 5]).bind λ t=>some (AV.agg (.ints .u64 (bE t)) 20):=by kernel_rfl
end
section
variable (T0:Type) (R0:FA T0) (aG aO cE cI cP:T0->Int) (T1:Type) (R1:FA T1) (aM bK iH iI iP:T1->Int) (T2:Type) (R2:FA T2) (bE bU fD fJ fM:T2->Int) (T3:Type) (R3:FA T3) (bS:T3->List Int)
def aYd:Cg:=⟨⟨cV [(33,⟨R0,λ t=>aU [(aG t),(aO t),(cE t),(cI t),(cP t)] 5⟩),(28,⟨R1,λ t=>aU [(aM t),(bK t),(iH t),(iI t),(iP t)] 5⟩),(30,⟨R2,λ t=>aU [(bE t),(bU t),(fD t),(fJ t),(fM t)] 5⟩),(190,⟨R3,λ t=>AV.agg (.ints .u64 (bS t)) 20⟩)],[],cX⟩,[]⟩
theorem bFf (fu:Nat) (a b c d e f g h i j k l m n o p q r s t:Int):aS prog Tryz.f170 (aYd T0 R0 aG aO cE cI cP T1 R1 aM bK iH iI iP T2 R2 bE bU fD fJ fM T3 R3 bS) fu [aU [a,b,c,d,e,f,g,h,i,j,k,l,m,n,o,p,q,r,s,t] 20]=(R0 [.agg (.ints .u64 (List.take 5 (List.drop 0 [a,b,c,d,e,f,g,h,i,j,k,l,m,n,o,p,q,r,s,t]))) 5]).bind λ bY=>(R0 [.agg (.ints .u64 (List.take 5 (List.drop 5 [a,b,c,d,e,f,g,h,i,j,k,l,m,n,o,p,q,r,s,t]))) 5]).bind λ cJ=>(R0 [.agg (.ints .u64 (List.take 5 (List.drop 10 [a,b,c,d,e,f,g,h,i,j,k,l,m,n,o,p,q,r,s,t]))) 5]).bind λ fF=>(R1 [aU [aG bY,aO bY,cE bY,cI bY,cP bY] 5,aU [aG cJ,aO cJ,cE cJ,cI cJ,cP cJ] 5]).bind λ gA=>(R2 [aU [aG bY,aO bY,cE bY,cI bY,cP bY] 5,aU [aG cJ,aO cJ,cE cJ,cI cJ,cP cJ] 5]).bind λ gC=>(R1 [.agg (.ints .u64 (List.take 5 (List.drop 0 [a,b,c,d,e,f,g,h,i,j,k,l,m,n,o,p,q,r,s,t]))) 5,.agg (.ints .u64 (List.take 5 (List.drop 5 [a,b,c,d,e,f,g,h,i,j,k,l,m,n,o,p,q,r,s,t]))) 5]).bind λ t=>(R0 [aU [aM t,bK t,iH t,iI t,iP t] 5]).bind λ t=>(R2 [aU [aM gA,bK gA,iH gA,iI gA,iP gA] 5,aU [aG t,aO t,cE t,cI t,cP t] 5]).bind λ t=>(R1 [aU [aG fF,aO fF,cE fF,cI fF,cP fF] 5,aU [aG fF,aO fF,cE fF,cI fF,cP fF] 5]).bind λ jJ=>(R1 [aU [aM jJ,bK jJ,iH jJ,iI jJ,iP jJ] 5,aU [bE gC,bU gC,fD gC,fJ gC,fM gC] 5]).bind λ nR=>(R3 [aU [bE t,bU t,fD t,fJ t,fM t] 5,aU [aM nR,bK nR,iH nR,iI nR,iP nR] 5,aU [bE gC,bU gC,fD gC,fJ gC,fM gC] 5,aU [aM gA,bK gA,iH gA,iI gA,iP gA] 5]).bind λ t=>some (AV.agg (.ints .u64 (bS t)) 20):=by kernel_rfl
end
section
variable (T0:Type) (R0:FA T0) (aG aO cE cI cP:T0->Int)
def aYe:Cg:=⟨⟨cV [(37,⟨R0,λ t=>aU [(aG t),(aO t),(cE t),(cI t),(cP t)] 5⟩)],[],cX⟩,[]⟩
theorem bFg (fu:Nat) (a b c d e f g h i j k l m n o p q r s t:Int):aS prog Tryz.f197 (aYe T0 R0 aG aO cE cI cP) fu [aU [a,b,c,d,e,f,g,h,i,j,k,l,m,n,o,p,q,r,s,t] 20]=(R0 [.agg (.ints .u64 (List.take 5 (List.drop 0 [a,b,c,d,e,f,g,h,i,j,k,l,m,n,o,p,q,r,s,t]))) 5]).bind λ bY=>(R0 [.agg (.ints .u64 (List.take 5 (List.drop 15 [a,b,c,d,e,f,g,h,i,j,k,l,m,n,o,p,q,r,s,t]))) 5]).bind λ cJ=>some (AV.agg (.ints .u64 ([aG bY,aO bY,cE bY,cI bY,cP bY]++(List.take 5 (List.drop 5 [a,b,c,d,e,f,g,h,i,j,k,l,m,n,o,p,q,r,s,t])++(List.take 5 (List.drop 10 [a,b,c,d,e,f,g,h,i,j,k,l,m,n,o,p,q,r,s,t])++[aG cJ,aO cJ,cE cJ,cI cJ,cP cJ])))) 20):=by kernel_rfl
end
section
variable (T0:Type) (R0:FA T0) (aG aO cE cI cP:T0->Int) (T1:Type) (R1:FA T1) (aM bK iH iI iP:T1->Int)
def aYf:Cg:=⟨⟨cV [(68,⟨R0,λ t=>aU [(aG t),(aO t),(cE t),(cI t),(cP t)] 5⟩),(29,⟨R1,λ t=>aU [(aM t),(bK t),(iH t),(iI t),(iP t)] 5⟩)],[],cX⟩,[]⟩
theorem bFh (fu:Nat) (a b c d e f g h i j k l m n o p q r s t:Int):aS prog Tryz.f199 (aYf T0 R0 aG aO cE cI cP T1 R1 aM bK iH iI iP) fu [aU [a,b,c,d,e,f,g,h,i,j,k,l,m,n,o,p,q,r,s,t] 20]=(R0 [.agg (.ints .u64 (List.take 5 (List.drop 10 [a,b,c,d,e,f,g,h,i,j,k,l,m,n,o,p,q,r,s,t]))) 5]).bind λ bY=>(R1 [.agg (.ints .u64 (List.take 5 (List.drop 5 [a,b,c,d,e,f,g,h,i,j,k,l,m,n,o,p,q,r,s,t]))) 5,aU [aG bY,aO bY,cE bY,cI bY,cP bY] 5]).bind λ t=>some (aU [aM t,bK t,iH t,iI t,iP t] 5):=by kernel_rfl
end
section
variable (T0:Type) (R0:FA T0) (aG aO cE cI cP:T0->Int) (T1:Type) (R1:FA T1) (aM:T1->Bool)
def aYg:Cg:=⟨⟨cV [(29,⟨R0,λ t=>aU [(aG t),(aO t),(cE t),(cI t),(cP t)] 5⟩),(75,⟨R1,λ t=>AV.bool (aM t)⟩)],[],cX⟩,[]⟩
theorem bFi (fu:Nat) (a b c d e f g h i j k l m n o p q r s t a' b' c' d' e' f' g' h' i' j' k' l' m' n' o' p' q' r' s' t':Int):aS prog Tryz.f198 (aYg T0 R0 aG aO cE cI cP T1 R1 aM) fu [aU [a,b,c,d,e,f,g,h,i,j,k,l,m,n,o,p,q,r,s,t] 20,aU [a',b',c',d',e',f',g',h',i',j',k',l',m',n',o',p',q',r',s',t'] 20]=(R0 [.agg (.ints .u64 (List.take 5 (List.drop 0 [a,b,c,d,e,f,g,h,i,j,k,l,m,n,o,p,q,r,s,t]))) 5,.agg (.ints .u64 (List.take 5 (List.drop 10 [a',b',c',d',e',f',g',h',i',j',k',l',m',n',o',p',q',r',s',t']))) 5]).bind λ bY=>(R0 [.agg (.ints .u64 (List.take 5 (List.drop 0 [a',b',c',d',e',f',g',h',i',j',k',l',m',n',o',p',q',r',s',t']))) 5,.agg (.ints .u64 (List.take 5 (List.drop 10 [a,b,c,d,e,f,g,h,i,j,k,l,m,n,o,p,q,r,s,t]))) 5]).bind λ cJ=>(R1 [aU [aG bY,aO bY,cE bY,cI bY,cP bY] 5,aU [aG cJ,aO cJ,cE cJ,cI cJ,cP cJ] 5]).bind λ fF=>bif aM fF then (R0 [.agg (.ints .u64 (List.take 5 (List.drop 5 [a,b,c,d,e,f,g,h,i,j,k,l,m,n,o,p,q,r,s,t]))) 5,.agg (.ints .u64 (List.take 5 (List.drop 10 [a',b',c',d',e',f',g',h',i',j',k',l',m',n',o',p',q',r',s',t']))) 5]).bind λ gA=>(R0 [.agg (.ints .u64 (List.take 5 (List.drop 5 [a',b',c',d',e',f',g',h',i',j',k',l',m',n',o',p',q',r',s',t']))) 5,.agg (.ints .u64 (List.take 5 (List.drop 10 [a,b,c,d,e,f,g,h,i,j,k,l,m,n,o,p,q,r,s,t]))) 5]).bind λ t=>(R1 [aU [aG gA,aO gA,cE gA,cI gA,cP gA] 5,aU [aG t,aO t,cE t,cI t,cP t] 5]).bind λ t=>some (AV.bool (aM t)) else some (AV.bool false):=by kernel_rfl
end
section
variable (T0:Type) (R0:FA T0) (aG:T0->List Int) (aO:T0->Nat) (T1:Type) (R1:FA T1) (aM:T1->List Int) (bK:T1->Nat) (T2:Type) (R2:FA T2) (bE:T2->List Int) (bU:T2->Nat) (T3:Type) (R3:FA T3) (bS:T3->List Int) (eX:T3->Nat)
def aYh:Cg:=⟨⟨cV [(93,⟨R0,λ t=>AV.s (dI (aG t) (aO t))⟩),(92,⟨R1,λ t=>AV.s (dI (aM t) (bK t))⟩),(94,⟨R2,λ t=>AV.s (dI (bE t) (bU t))⟩),(91,⟨R3,λ t=>AV.s (dI (bS t) (eX t))⟩)],[],cX⟩,[]⟩
theorem bFj (fu:Nat):aS prog Tryz.f54 (aYh T0 R0 aG aO T1 R1 aM bK T2 R2 bE bU T3 R3 bS eX) fu []=(R0 [.int .u64 121665]).bind λ t=>(R1 [.s (dI [] 0),.s (dI (aG t) (aO t))]).bind λ t=>(R0 [.int .u64 121666]).bind λ bY=>(R2 [.s (dI (aG bY) (aO bY))]).bind λ cJ=>(R3 [.s (dI (aM t) (bK t)),.s (dI (bE cJ) (bU cJ))]).bind λ t=>some (AV.s (dI (bS t) (eX t))):=by kernel_rfl
end
section
variable (T0:Type) (R0:FA T0) (T1:Type) (R1:FA T1) (T2:Type) (R2:FA T2) (bE:T2->List Int) (T3:Type) (R3:FA T3) (bS:T3->List Int) (T4:Type) (R4:FA T4) (dG:T4->List Int) (T5:Type) (R5:FA T5) (fE:T5->List Int) (T6:Type) (R6:FA T6) (mF:T6->Bool) (T7:Type) (R7:FA T7) (wU:T7->List Int) (T8:Type) (R8:FA T8) (tE vE BH IF IG:T8->Int) (T9:Type) (R9:FA T9) (zX DX NI NJ NK:T9->Int) (Wo:Type) (Wv:FA Wo) (zY:Wo->Bool)
def aMK:Cg:=⟨⟨cV [(195,⟨R0,λ t=>AV.bool (true)⟩),(62,⟨R1,λ t=>AV.bool (true)⟩),(26,⟨R2,λ t=>AV.agg (.ints .u64 (bE t)) 20⟩),(197,⟨R3,λ t=>AV.agg (.ints .u64 (bS t)) 20⟩),(196,⟨R4,λ t=>AV.agg (.ints .u64 (dG t)) 20⟩),(168,⟨R5,λ t=>AV.agg (.ints .u64 (fE t)) 20⟩),(198,⟨R6,λ t=>AV.bool (mF t)⟩),(199,⟨R7,λ t=>AV.agg (.ints .u64 (wU t)) 5⟩),(32,⟨R8,λ t=>aU [(tE t),(vE t),(BH t),(IF t),(IG t)] 5⟩),(29,⟨R9,λ t=>aU [(zX t),(DX t),(NI t),(NJ t),(NK t)] 5⟩),(75,⟨Wv,λ t=>AV.bool (zY t)⟩)],[],cX⟩,[]⟩
theorem aT4 (fu:Nat):aS prog Tryz.f181 (aMK T0 R0 T1 R1 T2 R2 bE T3 R3 bS T4 R4 dG T5 R5 fE T6 R6 mF T7 R7 wU T8 R8 tE vE BH IF IG T9 R9 zX DX NI NJ NK Wo Wv zY) fu []=(R0 []).bind λ t=>(R1 []).bind λ t=>(R2 []).bind λ t=>(R3 [.agg (.ints .u64 (bE t)) 20]).bind λ bY=>(R4 [.agg (.ints .u64 (bE t)) 20,.agg (.ints .u64 (bS bY)) 20]).bind λ cJ=>(R5 []).bind λ fF=>(R6 [.agg (.ints .u64 (dG cJ)) 20,.agg (.ints .u64 (fE fF)) 20]).bind λ gA=>bif mF gA then (R5 []).bind λ gC=>(R6 [.agg (.ints .u64 (bE t)) 20,.agg (.ints .u64 (fE gC)) 20]).bind λ jJ=>bif !mF jJ then (R7 [.agg (.ints .u64 (bE t)) 20]).bind λ t=>(R8 [.int .u64 5]).bind λ nR=>(R9 [.agg (.ints .u64 (wU t)) 5,aU [tE nR,vE nR,BH nR,IF nR,IG nR] 5]).bind λ t=>(R8 [.int .u64 4]).bind λ nQ=>(Wv [aU [zX t,DX t,NI t,NJ t,NK t] 5,aU [tE nQ,vE nQ,BH nQ,IF nQ,IG nQ] 5]).bind λ t=>some (AV.bool (zY t)) else some (AV.bool false) else some (AV.bool false):=by kernel_rfl
end
set_option maxRecDepth 4000
def nG (p:Pt):Prop:=cS p.x /\ cS p.y /\ cS p.z /\ cS p.t
theorem tB {T:Type} {F:Pt->T} {args:List AV} {t:T} (h:A3 F args=some t):∃ p,args=[eP p] /\ nG p /\ t=F p:=by
 unfold A3 at h;split at h
 ·obtain ⟨h1,h2⟩:=bO h;simp only [aW] at h1;obtain ⟨x,rfl,rfl,rfl,rfl,rfl,hx,ex⟩:=eO h1.1;obtain ⟨y,rfl,rfl,rfl,rfl,rfl,hy,ey⟩:=eO h1.2.1;obtain ⟨z,rfl,rfl,rfl,rfl,rfl,hz,ez⟩:=eO h1.2.2.1;obtain ⟨w,rfl,rfl,rfl,rfl,rfl,hw,ew⟩:=eO h1.2.2.2;rw [ex,ey,ez,ew] at h2;exact ⟨⟨x,y,z,w⟩,rfl,⟨hx,hy,hz,hw⟩,h2.symm⟩
 ·cases h
theorem Gq {T:Type} {F:Pt->Pt->T} {args:List AV} {t:T} (h:K9 F args=some t):∃ p q,args=[eP p,eP q] /\ nG p /\ nG q /\ t=F p q:=by
 unfold K9 at h;split at h
 ·obtain ⟨h1,h2⟩:=bO h;simp only [aW] at h1;obtain ⟨x,rfl,rfl,rfl,rfl,rfl,hx,ex⟩:=eO h1.1.1;obtain ⟨y,rfl,rfl,rfl,rfl,rfl,hy,ey⟩:=eO h1.1.2.1;obtain ⟨z,rfl,rfl,rfl,rfl,rfl,hz,ez⟩:=eO h1.1.2.2.1;obtain ⟨w,rfl,rfl,rfl,rfl,rfl,hw,ew⟩:=eO h1.1.2.2.2;obtain ⟨x',rfl,rfl,rfl,rfl,rfl,hx',ex'⟩:=eO h1.2.1;obtain ⟨y',rfl,rfl,rfl,rfl,rfl,hy',ey'⟩:=eO h1.2.2.1;obtain ⟨z',rfl,rfl,rfl,rfl,rfl,hz',ez'⟩:=eO h1.2.2.2.1;obtain ⟨w',rfl,rfl,rfl,rfl,rfl,hw',ew'⟩:=eO h1.2.2.2.2;rw [ex,ey,ez,ew,ex',ey',ez',ew'] at h2;exact ⟨⟨x,y,z,w⟩,⟨x',y',z',w'⟩,rfl,⟨hx,hy,hz,hw⟩,⟨hx',hy',hz',hw'⟩,h2.symm⟩
 ·cases h
theorem aFQ {T:Type} {F:Pt->Pt->Fe->T} {args:List AV} {t:T} (h:LA F args=some t):∃ p q u,args=[eP p,eP q,eF u] /\ nG p /\ nG q /\ cS u /\ t=F p q u:=by
 unfold LA at h;split at h
 ·obtain ⟨h1,h2⟩:=bO h;simp only [aW] at h1;obtain ⟨x,rfl,rfl,rfl,rfl,rfl,hx,ex⟩:=eO h1.1.1.1;obtain ⟨y,rfl,rfl,rfl,rfl,rfl,hy,ey⟩:=eO h1.1.1.2.1;obtain ⟨z,rfl,rfl,rfl,rfl,rfl,hz,ez⟩:=eO h1.1.1.2.2.1;obtain ⟨w,rfl,rfl,rfl,rfl,rfl,hw,ew⟩:=eO h1.1.1.2.2.2;obtain ⟨x',rfl,rfl,rfl,rfl,rfl,hx',ex'⟩:=eO h1.1.2.1;obtain ⟨y',rfl,rfl,rfl,rfl,rfl,hy',ey'⟩:=eO h1.1.2.2.1;obtain ⟨z',rfl,rfl,rfl,rfl,rfl,hz',ez'⟩:=eO h1.1.2.2.2.1;obtain ⟨w',rfl,rfl,rfl,rfl,rfl,hw',ew'⟩:=eO h1.1.2.2.2.2;obtain ⟨u,rfl,rfl,rfl,rfl,rfl,hu,eu⟩:=eO h1.2;rw [ex,ey,ez,ew,ex',ey',ez',ew',eu] at h2;exact ⟨⟨x,y,z,w⟩,⟨x',y',z',w'⟩,u,rfl,⟨hx,hy,hz,hw⟩,⟨hx',hy',hz',hw'⟩,hu,h2.symm⟩
 ·cases h
theorem WC {T:Type} {F:Fe->Fe->Fe->Fe->T} {args:List AV} {t:T} (h:OJ F args=some t):∃ x y z w,args=[eF x,eF y,eF z,eF w] /\ cS x /\ cS y /\ cS z /\ cS w /\ t=F x y z w:=by
 unfold OJ at h;split at h
 ·obtain ⟨h1,h2⟩:=bO h;simp only [aW] at h1;obtain ⟨x,rfl,rfl,rfl,rfl,rfl,hx,ex⟩:=eO h1.1;obtain ⟨y,rfl,rfl,rfl,rfl,rfl,hy,ey⟩:=eO h1.2.1;obtain ⟨z,rfl,rfl,rfl,rfl,rfl,hz,ez⟩:=eO h1.2.2.1;obtain ⟨w,rfl,rfl,rfl,rfl,rfl,hw,ew⟩:=eO h1.2.2.2;rw [ex,ey,ez,ew] at h2;exact ⟨x,y,z,w,rfl,hx,hy,hz,hw,h2.symm⟩
 ·cases h
theorem CQ {T:Type} (F:Pt->T) {p:Pt} (h:nG p):A3 F [eP p]=some (F p):=by
 obtain ⟨x,y,z,w⟩:=p;obtain ⟨h1,h2,h3,h4⟩:=h;simp only [A3,eP];rw [eQ h1,eQ h2,eQ h3,eQ h4]; rfl
theorem ZQ {T:Type} (F:Pt->Pt->T) {p q:Pt} (h:nG p) (k:nG q):K9 F [eP p,eP q]=some (F p q):=by
 obtain ⟨x,y,z,w⟩:=p;obtain ⟨h1,h2,h3,h4⟩:=h;obtain ⟨x',y',z',w'⟩:=q;obtain ⟨k1,k2,k3,k4⟩:=k;simp only [K9,eP];rw [eQ h1,eQ h2,eQ h3,eQ h4,eQ k1,eQ k2,eQ k3,eQ k4]; rfl
theorem aT5 {T:Type} (F:Pt->Pt->Fe->T) {p q:Pt} {u:Fe} (h:nG p) (k:nG q) (hu:cS u):LA F [eP p,eP q,eF u]=some (F p q u):=by
 obtain ⟨x,y,z,w⟩:=p;obtain ⟨h1,h2,h3,h4⟩:=h;obtain ⟨x',y',z',w'⟩:=q;obtain ⟨k1,k2,k3,k4⟩:=k;simp only [LA,eP,eF];rw [eQ h1,eQ h2,eQ h3,eQ h4,eQ k1,eQ k2,eQ k3,eQ k4,eQ hu]; rfl
theorem aML {T:Type} (F:Fe->Fe->Fe->Fe->T) {x y z w:Fe} (h1:cS x) (h2:cS y) (h3:cS z) (h4:cS w):OJ F [eF x,eF y,eF z,eF w]=some (F x y z w):=by
 simp only [OJ,eF];rw [eQ h1,eQ h2,eQ h3,eQ h4]; rfl
theorem Mi {x y:Fe} (hx:cS x) (hy:cS y):nG (Bf x y):=⟨hx,hy,cA 1,aL hx hy⟩
theorem aCV {e f g h:Fe} (he:cS e) (hf:cS f) (hg:cS g) (hh:cS h):nG (LC e f g h):=⟨aL he hf,aL hg hh,aL hf hg,aL he hh⟩
theorem Gr {p q:Pt} {u:Fe} (hp:nG p) (hq:nG q) (hu:cS u):nG (Bh p q u):=by
 obtain ⟨h1,h2,h3,h4⟩:=hp;obtain ⟨k1,k2,k3,k4⟩:=hq;have a:=aL (x:=cQ p.y p.x) (y:=cQ q.y q.x) (cR h2) (cR k2);have b:=aL (cT h2 h1) (cT k2 k1);have c:=aL (aL h4 hu) k4;have d:=aL (cT h3 h3) k3;exact aCV (cR b) (cR d) (cT d c) (cT b a)
theorem qY:cS dF:=cA _
theorem Ix:cS Fd:=cT qY qY
theorem aCW {p:Pt} (hp:nG p):nG (UX p):=⟨cR qW,hp.2.1,hp.2.2.1,cR qW⟩
theorem J1 {p:Pt} (hp:nG p):nG (JD p):=by
 obtain ⟨h1,h2,h3,h4⟩:=hp;have a:=aL h1 h1;have b:=aL h2 h2;have z:=aL h3 h3;have s:=cT h1 h2;exact aCV (cR (cT a b)) (cT (cT z z) (cR a)) (cR a) (cT a b)
theorem sF:nG dM:=Mi (cA 0) (cA 1)
theorem n8:cS pB:=aL (cA 4) (inv_okC (cA 5))
where inv_okC {x:Fe} (hx:cS x):cS (vV x):=HG hx (cA 1)
abbrev bHO:Cg:=bHM (Fe) BO (λ t=>↑t.a) (λ t=>↑t.b) (λ t=>↑t.c) (λ t=>↑t.d) (λ t=>↑t.e)
theorem bFk:CfOk prog bHO.c:=gk <| aA Ja <| aH
def bHP:Str:=[51,55,48,57,53,55,48,53,57,51,52,54,54,57,52,51,57,51,52,51,49,51,56,48,56,51,53,48,56,55,53,52,53,54,53,49,56,57,53,52,50,49,49,51,56,55,57,56,52,51,50,49,57,48,49,54,51,56,56,55,56,53,53,51,51,48,56,53,57,52,48,50,56,51,53,53,53]
theorem aMM:(z8 bHP).1%aK=37095705934669439343138083508754565189542113879843219016388785533085940283555:=by decide +kernel
theorem WD:CallOk prog 69 sCD:=by
 refine fO bFk Tryz.func69 ?_;intro args t ht;unfold sCD at ht;simp only at ht;split at ht
 ·refine (bHN ..).trans ?_;have d:=nW (s:=bHP) (by decide +kernel);rw [aMM] at d;refine (dW (λ o=>Option.bind o _) d).trans ?_;rfl
 ·cases ht
abbrev bFl:Cg:=aX7 (Fe) JB (λ t=>↑t.a) (λ t=>↑t.b) (λ t=>↑t.c) (λ t=>↑t.d) (λ t=>↑t.e) (Fe) iA (λ t=>↑t.a) (λ t=>↑t.b) (λ t=>↑t.c) (λ t=>↑t.d) (λ t=>↑t.e)
theorem aT6:CfOk prog bFl.c:=gk <| aA AB <| aA kV <| aH
theorem WE:CallOk prog 70 X4:=by
 refine fO aT6 Tryz.func70 ?_;intro args t ht;obtain ⟨x,y,rfl,hx,hy,rfl⟩:=y5 (F:=Bf) ht;have o1:=lV (n:=1) (by decide);rw [show ((1:Nat):Int)=1 from rfl] at o1;have m:=bF hx hy;simp only [eF] at m;refine (bE9 ..).trans ?_;rw [o1,aC,m,aC];rfl
theorem PG {x y:Fe} (hx:cS x) (hy:cS y):LB [eF x,eF y]=some (Bf x y):=by
 simp only [LB,X4]; exact HL Bf hx hy
abbrev bFm:Cg:=aX8 (Fe) JB (λ t=>↑t.a) (λ t=>↑t.b) (λ t=>↑t.c) (λ t=>↑t.d) (λ t=>↑t.e) (Pt) LB (λ t=>[↑t.x.a,↑t.x.b,↑t.x.c,↑t.x.d,↑t.x.e,↑t.y.a,↑t.y.b,↑t.y.c,↑t.y.d,↑t.y.e,↑t.z.a,↑t.z.b,↑t.z.c,↑t.z.d,↑t.z.e,↑t.t.a,↑t.t.b,↑t.t.c,↑t.t.d,↑t.t.e])
theorem aT7:CfOk prog bFm.c:=gk <| aA AB <| aA WE <| aH
theorem ST:CallOk prog 168 UT:=by
 refine fO aT7 Tryz.func168 ?_;intro args t ht;unfold UT EP at ht;simp only at ht;split at ht
 ·cases ht;have o0:=lV (n:=0) (by decide);have o1:=lV (n:=1) (by decide);rw [show ((1:Nat):Int)=1 from rfl] at o1;rw [show ((0:Nat):Int)=0 from rfl] at o0;have m:=PG (cA 0) (cA 1);simp only [eF] at m;refine (bFa ..).trans ?_;rw [o0,aC,o1,aC,m,aC];rfl
 ·cases ht
theorem tC:Bg []=some dM:=rfl
abbrev bFn:Cg:=aYa (Fe) iA (λ t=>↑t.a) (λ t=>↑t.b) (λ t=>↑t.c) (λ t=>↑t.d) (λ t=>↑t.e)
theorem aT8:CfOk prog bFn.c:=gk <| aA kV <| aH
theorem aYi:CallOk prog 190 sJn:=by
 refine fO aT8 Tryz.func190 ?_;intro args t ht;obtain ⟨e,f,g,h,rfl,he,hf,hg,hh,rfl⟩:=WC (F:=LC) ht;have m1:=bF he hf;have m2:=bF hg hh;have m3:=bF hf hg;have m4:=bF he hh;simp only [eF] at m1 m2 m3 m4;refine (bFc ..).trans ?_;rw [m1,aC,m2,aC,m3,aC,m4,aC];rfl
theorem aMN {e f g h:Fe} (he:cS e) (hf:cS f) (hg:cS g) (hh:cS h):rJn [eF e,eF f,eF g,eF h]=some (LC e f g h):=by
 simp only [rJn,sJn]; exact aML LC he hf hg hh
abbrev bFo:Cg:=aYb (Fe) xC (λ t=>↑t.a) (λ t=>↑t.b) (λ t=>↑t.c) (λ t=>↑t.d) (λ t=>↑t.e) (Fe) iA (λ t=>↑t.a) (λ t=>↑t.b) (λ t=>↑t.c) (λ t=>↑t.d) (λ t=>↑t.e) (Fe) vU (λ t=>↑t.a) (λ t=>↑t.b) (λ t=>↑t.c) (λ t=>↑t.d) (λ t=>↑t.e) (Pt) rJn (λ t=>[↑t.x.a,↑t.x.b,↑t.x.c,↑t.x.d,↑t.x.e,↑t.y.a,↑t.y.b,↑t.y.c,↑t.y.d,↑t.y.e,↑t.z.a,↑t.z.b,↑t.z.c,↑t.z.d,↑t.z.e,↑t.t.a,↑t.t.b,↑t.t.c,↑t.t.d,↑t.t.e])
theorem aT9:CfOk prog bFo.c:=gk <| aA AC <| aA kV <| aA xD <| aA aYi <| aH
theorem aMO:CallOk prog 171 bCz:=by
 refine fO aT9 Tryz.func171 ?_;intro args t ht;obtain ⟨p,q,u,rfl,⟨h1,h2,h3,h4⟩,⟨k1,k2,k3,k4⟩,hu,rfl⟩:=aFQ (F:=Bh) ht;have s1:=iQ h2 h1;have s2:=iQ k2 k1;have m1:=bF (x:=cQ p.y p.x) (y:=cQ q.y q.x) (cR h2) (cR k2);have a1:=gF h2 h1;have a2:=gF k2 k1;have m2:=bF (cT h2 h1) (cT k2 k1);have m3:=bF h4 hu;have m4:=bF (aL h4 hu) k4;have a3:=gF h3 h3;have m5:=bF (cT h3 h3) k3;have ka:=aL (x:=cQ p.y p.x) (y:=cQ q.y q.x) (cR h2) (cR k2);have kb:=aL (cT h2 h1) (cT k2 k1);have kc:=aL (aL h4 hu) k4;have kd:=aL (cT h3 h3) k3;have s3:=iQ kb ka;have s4:=iQ kd kc;have a4:=gF kd kc;have a5:=gF kb ka;have j:=aMN (cR (y:=aN (cQ p.y p.x) (cQ q.y q.x)) kb) (cR (y:=aN (aN p.t u) q.t) kd) (cT kd kc) (cT kb ka);simp only [eF] at s1 s2 m1 a1 a2 m2 m3 m4 a3 m5 s3 s4 a4 a5 j;refine (bFd ..).trans ?_;simp only [Eu,gL,sL,sM];rw [s1,aC,s2,aC,m1,aC,a1,aC,a2,aC,m2,aC,m3,aC,m4,aC,a3,aC,m5,aC,s3,aC,s4,aC,a4,aC,a5,aC,j,aC];rfl
theorem aCX {p q:Pt} {u:Fe} (h:nG p) (k:nG q) (hu:cS u):aEA [eP p,eP q,eF u]=some (Bh p q u):=by
 simp only [aEA,bCz]; exact aT5 Bh h k hu
theorem WF:eF dF=AV.agg (.ints .u64 [929955233495203,466365720129213,1662059464998953,2033849074728123,1442794654840575]) 5:=by kernel_rfl
abbrev bFp:Cg:=aYc (PUnit) rCD (Fe) vU (λ t=>↑t.a) (λ t=>↑t.b) (λ t=>↑t.c) (λ t=>↑t.d) (λ t=>↑t.e) (Pt) aEA (λ t=>[↑t.x.a,↑t.x.b,↑t.x.c,↑t.x.d,↑t.x.e,↑t.y.a,↑t.y.b,↑t.y.c,↑t.y.d,↑t.y.e,↑t.z.a,↑t.z.b,↑t.z.c,↑t.z.d,↑t.z.e,↑t.t.a,↑t.t.b,↑t.t.c,↑t.t.d,↑t.t.e])
theorem aUa:CfOk prog bFp.c:=gk <| aA WD <| aA xD <| aA aMO <| aH
theorem aCY:CallOk prog 196 aBk:=by
 refine fO aUa Tryz.func196 ?_;intro args t ht;obtain ⟨p,q,rfl,hp,hq,rfl⟩:=Gq (F:=λ p q=>Bh p q Fd) ht;have a:=gF qY qY;rw [WF] at a;have m:=aCX hp hq Ix;simp only [eP,eF] at m;refine (bFe ..).trans ?_;rw [show rCD []=some () from rfl,aC,aC,a,aC];refine (dW (λ o=>Option.bind o _) m).trans ?_;rfl
theorem Mj {p q:Pt} (h:nG p) (k:nG q):UW [eP p,eP q]=some (Bh p q Fd):=by
 simp only [UW,aBk]; exact ZQ (λ p q=>Bh p q Fd) h k
set_option maxRecDepth 4000
abbrev bFq:Cg:=aYd (Fe) NQ (λ t=>↑t.a) (λ t=>↑t.b) (λ t=>↑t.c) (λ t=>↑t.d) (λ t=>↑t.e) (Fe) vU (λ t=>↑t.a) (λ t=>↑t.b) (λ t=>↑t.c) (λ t=>↑t.d) (λ t=>↑t.e) (Fe) xC (λ t=>↑t.a) (λ t=>↑t.b) (λ t=>↑t.c) (λ t=>↑t.d) (λ t=>↑t.e) (Pt) rJn (λ t=>[↑t.x.a,↑t.x.b,↑t.x.c,↑t.x.d,↑t.x.e,↑t.y.a,↑t.y.b,↑t.y.c,↑t.y.d,↑t.y.e,↑t.z.a,↑t.z.b,↑t.z.c,↑t.z.d,↑t.z.e,↑t.t.a,↑t.t.b,↑t.t.c,↑t.t.d,↑t.t.e])
theorem aUb:CfOk prog bFq.c:=gk <| aA EG <| aA xD <| aA AC <| aA aYi <| aH
theorem bFr:CallOk prog 170 bCA:=by
 refine fO aUb Tryz.func170 ?_;intro args t ht;obtain ⟨p,rfl,⟨h1,h2,h3,h4⟩,rfl⟩:=tB (F:=JD) ht;have q1:=kW h1;have q2:=kW h2;have q3:=kW h3;have ka:=aL h1 h1;have kb:=aL h2 h2;have kz:=aL h3 h3;have a1:=gF ka kb;have s1:=iQ ka kb;have a2:=gF h1 h2;have q4:=kW (cT h1 h2);have kq:=aL (cT h1 h2) (cT h1 h2);have s2:=iQ (cT ka kb) kq;have a3:=gF kz kz;have ks:cS (cQ (aN p.x p.x) (aN p.y p.y)):=cR ka;have a4:=gF (cT kz kz) ks;have j:=aMN (cR (y:=aN (gS p.x p.y) (gS p.x p.y)) (cT ka kb)) (cT (cT kz kz) ks) ks (cT ka kb);simp only [eF] at q1 q2 q3 a1 s1 a2 q4 s2 a3 a4 j;refine (bFf ..).trans ?_;simp only [Eu,gL,sL,sM];rw [q1,aC,q2,aC,q3,aC,a1,aC,s1,aC,a2,aC,q4,aC,s2,aC,a3,aC,a4,aC,j,aC];rfl
theorem aUc {p:Pt} (h:nG p):aJn [eP p]=some (JD p):=by
 simp only [aJn,bCA]; exact CQ JD h
abbrev bFs:Cg:=aYe (Fe) IJ (λ t=>↑t.a) (λ t=>↑t.b) (λ t=>↑t.c) (λ t=>↑t.d) (λ t=>↑t.e)
theorem aUd:CfOk prog bFs.c:=gk <| aA Cq <| aH
theorem aUe:CallOk prog 197 aJo:=by
 refine fO aUd Tryz.func197 ?_;intro args t ht;obtain ⟨p,rfl,⟨h1,h2,h3,h4⟩,rfl⟩:=tB (F:=UX) ht;have n1:=pK h1;have n2:=pK h4;simp only [eF] at n1 n2;refine (bFg ..).trans ?_;simp only [Eu,gL,sL,sM];rw [n1,aC,n2,aC];rfl
theorem aMP {p:Pt} (h:nG p):aJp [eP p]=some (UX p):=by
 simp only [aJp,aJo]; exact CQ UX h
theorem SU {x:Fe} (hx:cS x):cS (vV x):=HG hx (cA 1)
abbrev bFt:Cg:=aYf (Fe) aHi (λ t=>↑t.a) (λ t=>↑t.b) (λ t=>↑t.c) (λ t=>↑t.d) (λ t=>↑t.e) (Fe) iA (λ t=>↑t.a) (λ t=>↑t.b) (λ t=>↑t.c) (λ t=>↑t.d) (λ t=>↑t.e)
theorem aUf:CfOk prog bFt.c:=gk <| aA XK <| aA kV <| aH
theorem bHQ:CallOk prog 199 sPY:=by
 refine fO aUf Tryz.func199 ?_;intro args t ht;obtain ⟨p,rfl,⟨h1,h2,h3,h4⟩,rfl⟩:=tB (F:=λ p=>aN p.y (vV p.z)) ht;have i:=Pw h3;have m:=bF (y:=vV p.z) h2 (SU h3);simp only [eF] at i m;refine (bFh ..).trans ?_;simp only [Eu,gL,sL,sM];rw [i,aC,m,aC];rfl
theorem bFu {p:Pt} (h:nG p):rPY [eP p]=some (aN p.y (vV p.z)):=by
 simp only [rPY,sPY]; exact CQ (λ p=>aN p.y (vV p.z)) h
abbrev bFv:Cg:=aYg (Fe) iA (λ t=>↑t.a) (λ t=>↑t.b) (λ t=>↑t.c) (λ t=>↑t.d) (λ t=>↑t.e) (Bool) XE (λ t=>t)
theorem aUg:CfOk prog bFv.c:=gk <| aA kV <| aA Kf <| aH
theorem aUh:CallOk prog 198 aJq:=by
 refine fO aUg Tryz.func198 ?_;intro args t ht;obtain ⟨p,q,rfl,⟨h1,h2,h3,h4⟩,⟨k1,k2,k3,k4⟩,rfl⟩:=Gq (F:=LD) ht;have m1:=bF h1 k3;have m2:=bF k1 h3;have e1:=rV (aL h1 k3) (aL k1 h3);have m3:=bF h2 k3;have m4:=bF k2 h3;have e2:=rV (aL h2 k3) (aL k2 h3);simp only [eF] at m1 m2 e1 m3 m4 e2;refine (bFi ..).trans ?_;simp only [Eu,gL,sL,sM];rw [m1,aC,m2,aC,e1,aC];show _=some (AV.bool (LD p q));rw [LD];cases jW (aN p.x q.z) (aN q.x p.z)
 ·rfl
 ·rw [aB,m3,aC,m4,aC,e2,aC]; rfl
theorem WG {p q:Pt} (h:nG p) (k:nG q):aJr [eP p,eP q]=some (LD p q):=by
 simp only [aJr,aJq]; exact ZQ LD h k
theorem WH {u v:Fe} (hu:cS u) (hv:cS v):cS (dZ u v) :=
 have h3:=aL (aL hv hv) hv
 aL (aL hu h3) (HG (aL hu (aL (aL h3 h3) hv)) (cA 1))
theorem aUi {u v:Fe} (hu:cS u) (hv:cS v):cS (mC u v).1:=by
 unfold mC;refine aQs ?_;cases (jW (aN v (aN (dZ u v) (dZ u v))) (cQ f0 u) || jW (aN v (aN (dZ u v) (dZ u v))) (aN (cQ f0 u) iF))
 ·exact WH hu hv
 ·exact aL (WH hu hv) xI
theorem WI:cS (cQ (aN pB pB) (fe 1)):=cR (aL n8 n8)
theorem WJ:cS (gS (aN dF (aN pB pB)) (fe 1)):=cT (aL qY (aL n8 n8)) (cA 1)
theorem Mk:cS OK:=aUi WI WJ
theorem DD:nG i4:=Mi Mk n8
abbrev bFw:Cg:=aX9 (Fe) JB (λ t=>↑t.a) (λ t=>↑t.b) (λ t=>↑t.c) (λ t=>↑t.d) (λ t=>↑t.e) (Fe) aHi (λ t=>↑t.a) (λ t=>↑t.b) (λ t=>↑t.c) (λ t=>↑t.d) (λ t=>↑t.e) (Fe) iA (λ t=>↑t.a) (λ t=>↑t.b) (λ t=>↑t.c) (λ t=>↑t.d) (λ t=>↑t.e) (Fe) NQ (λ t=>↑t.a) (λ t=>↑t.b) (λ t=>↑t.c) (λ t=>↑t.d) (λ t=>↑t.e) (Fe) xC (λ t=>↑t.a) (λ t=>↑t.b) (λ t=>↑t.c) (λ t=>↑t.d) (λ t=>↑t.e) (PUnit) rCD (Fe) vU (λ t=>↑t.a) (λ t=>↑t.b) (λ t=>↑t.c) (λ t=>↑t.d) (λ t=>↑t.e) (Fe × Bool) KZ (λ t=>↑t.fst.a) (λ t=>↑t.fst.b) (λ t=>↑t.fst.c) (λ t=>↑t.fst.d) (λ t=>↑t.fst.e) (λ t=>t.snd) (Pt) LB (λ t=>[↑t.x.a,↑t.x.b,↑t.x.c,↑t.x.d,↑t.x.e,↑t.y.a,↑t.y.b,↑t.y.c,↑t.y.d,↑t.y.e,↑t.z.a,↑t.z.b,↑t.z.c,↑t.z.d,↑t.z.e,↑t.t.a,↑t.t.b,↑t.t.c,↑t.t.d,↑t.t.e])
theorem aUj:CfOk prog bFw.c:=gk <| aA AB <| aA XK <| aA kV <| aA EG <| aA AC <| aA WD <| aA xD <| aA JU <| aA WE <| aH
theorem aCZ:CallOk prog 26 UU:=by
 refine fO aUj Tryz.func26 ?_;intro args t ht;unfold UU EP at ht;simp only at ht;split at ht
 ·have ht:=nA ht;subst ht;have o4:=lV (n:=4) (by decide);have o5:=lV (n:=5) (by decide);have o1:=lV (n:=1) (by decide);rw [show ((4:Nat):Int)=4 from rfl] at o4;rw [show ((5:Nat):Int)=5 from rfl] at o5;rw [show ((1:Nat):Int)=1 from rfl] at o1;have i:=Pw (cA 5);have m:iA [eF (fe 4),eF (vV (fe 5))]=some pB:=bF (cA 4) (SU (cA 5));have q:=kW n8;have kq:=aL n8 n8;have s:=iQ kq (cA 1);have m2:=bF qY kq;rw [WF] at m2;have a:=gF (aL qY kq) (cA 1);have r:=FY WI WJ;have pl:LB [eF (mC (cQ (aN pB pB) (fe 1)) (gS (aN dF (aN pB pB)) (fe 1))).1,eF pB]=some i4:=PG Mk n8;simp only [eF] at i m q s m2 a r pl;refine (bFb ..).trans ?_;rw [o4,aC,o5,aC,i,aC,m,aC,o1,aC,q,aC,s,aC,show rCD []=some () from rfl,aC,aC,m2,aC,a,aC,r,aC,pl,aC];rfl
 ·cases ht
theorem Gs:UV []=some i4:=rfl
set_option maxRecDepth 4000
theorem bFx {k j e:Nat} (he:e=aK - 2) (hk:k*j%aK=1) (hj:j < aK):k ^ e%aK=j:=by
 have h0:¬ cg (k:Int) 0:=λ h=>by
  have h1:=h.mul (cg.refl (j:Int));rw [Ao,<-qG] at h1;have:=rX.1 h1;rw [hk] at this; cases this
 have hf:=Ct h0 (e+1) (by rw [he]; decide);rw [yQ] at hf;have h1:cg ((k:Int)*(j:Int)) 1:=by
  have:=oP.2 (show k*j%aK=1%aK by rw [hk]; decide);rwa [qG] at this
 have h2:=hf.mul (cg.refl (j:Int));rw [Int.mul_assoc,uA] at h2;have h3:=((cg.refl ((k:Int) ^ e)).mul h1).symm;rw [Int.mul_one] at h3;have h4:=h3.trans h2;rw [<-M9] at h4;have:=oP.1 h4;rwa [aY hj] at this
abbrev dN:Nat:=37095705934669439343138083508754565189542113879843219016388785533085940283555
abbrev bFy:Cg:=aYh (Nat) y9 (λ t=>nb t) (λ t=>(nb t).length) (Nat) Ay (λ t=>nb t) (λ t=>(nb t).length) (Nat) N3 (λ t=>nb t) (λ t=>(nb t).length) (Nat) qV (λ t=>nb t) (λ t=>(nb t).length)
theorem aUk:CfOk prog bFy.c:=gk <| aA I4 <| aA GC <| aA QK <| aA xN <| aH
theorem bHR:CallOk prog 54 sRD:=by
 refine fO aUk Tryz.func54 ?_;intro args t ht;unfold sRD EP at ht;simp only at ht;split at ht
 ·have ht:=nA ht;subst ht;have s1:=An (k:=121665) (by decide);have s2:=An (k:=121666) (by decide);rw [show ((121665:Nat):Int)=121665 from rfl] at s1;rw [show ((121666:Nat):Int)=121666 from rfl] at s2;have n:=pW (x:=0) (y:=121665) (by decide) (by decide);rw [show (0+aK - 121665)%aK=57896044618658097711785492504343953926634992332820282019728792003956564698284 by decide] at n;have i:=UC (x:=121666) (by decide);rw [bFx (k:=121666) (j:=37095705934669439343138083508754565189542113879843219016388785533085940283556) rfl (by decide) (by decide)] at i;have m:=bQ (x:=57896044618658097711785492504343953926634992332820282019728792003956564698284) (y:=37095705934669439343138083508754565189542113879843219016388785533085940283556) (by decide) (by decide);rw [show 57896044618658097711785492504343953926634992332820282019728792003956564698284*37095705934669439343138083508754565189542113879843219016388785533085940283556%aK=dN by decide] at m;simp only [eN] at n i m;refine (bFj ..).trans ?_;rw [s1,aC];refine (dW (λ o=>Option.bind o _) n).trans ?_;rw [aC,s2,aC,i,aC,m,aC];rfl
 ·cases ht
theorem bFz:rRD []=some dN:=rfl
abbrev aUl:Cg:=aMK (PUnit) gM (PUnit) gM (Pt) UV (λ t=>[↑t.x.a,↑t.x.b,↑t.x.c,↑t.x.d,↑t.x.e,↑t.y.a,↑t.y.b,↑t.y.c,↑t.y.d,↑t.y.e,↑t.z.a,↑t.z.b,↑t.z.c,↑t.z.d,↑t.z.e,↑t.t.a,↑t.t.b,↑t.t.c,↑t.t.d,↑t.t.e]) (Pt) aJp (λ t=>[↑t.x.a,↑t.x.b,↑t.x.c,↑t.x.d,↑t.x.e,↑t.y.a,↑t.y.b,↑t.y.c,↑t.y.d,↑t.y.e,↑t.z.a,↑t.z.b,↑t.z.c,↑t.z.d,↑t.z.e,↑t.t.a,↑t.t.b,↑t.t.c,↑t.t.d,↑t.t.e]) (Pt) UW (λ t=>[↑t.x.a,↑t.x.b,↑t.x.c,↑t.x.d,↑t.x.e,↑t.y.a,↑t.y.b,↑t.y.c,↑t.y.d,↑t.y.e,↑t.z.a,↑t.z.b,↑t.z.c,↑t.z.d,↑t.z.e,↑t.t.a,↑t.t.b,↑t.t.c,↑t.t.d,↑t.t.e]) (Pt) Bg (λ t=>[↑t.x.a,↑t.x.b,↑t.x.c,↑t.x.d,↑t.x.e,↑t.y.a,↑t.y.b,↑t.y.c,↑t.y.d,↑t.y.e,↑t.z.a,↑t.z.b,↑t.z.c,↑t.z.d,↑t.z.e,↑t.t.a,↑t.t.b,↑t.t.c,↑t.t.d,↑t.t.e]) (Bool) aJr (λ t=>t) (Fe) rPY (λ t=>[↑t.a,↑t.b,↑t.c,↑t.d,↑t.e]) (Fe) JB (λ t=>↑t.a) (λ t=>↑t.b) (λ t=>↑t.c) (λ t=>↑t.d) (λ t=>↑t.e) (Fe) iA (λ t=>↑t.a) (λ t=>↑t.b) (λ t=>↑t.c) (λ t=>↑t.d) (λ t=>↑t.e) (Bool) XE (λ t=>t)
theorem aMQ:CfOk prog aUl.c:=gk <| aA YC <| aA LH <| aA aCZ <| aA aUe <| aA aCY <| aA ST <| aA aUh <| aA bHQ <| aA AB <| aA kV <| aA Kf <| aH
theorem bHS:LD (Bh i4 (UX i4) Fd) dM=true:=by decide +kernel
theorem bHT:LD i4 dM=false:=by decide +kernel
theorem bHU:jW (aN (aN i4.y (vV i4.z)) (fe 5)) (fe 4)=true:=by decide +kernel
theorem ZR:CallOk prog 181 gE:=by
 refine fO aMQ Tryz.func181 ?_;intro args t ht;unfold gE at ht;simp only at ht;split at ht
 ·have tr:gM []=some ():=rfl;have hb:=DD;have b:=Gs;have n:=aMP hb;have a:=Mj hb (aCW hb);have ne:=tC;have s1:=WG (Gr hb (aCW hb) Ix) sF;rw [bHS] at s1;have s2:=WG hb sF;rw [bHT] at s2;have y:=bFu hb;have o5:=lV (n:=5) (by decide);have o4:=lV (n:=4) (by decide);rw [show ((4:Nat):Int)=4 from rfl] at o4;rw [show ((5:Nat):Int)=5 from rfl] at o5;have ky:cS (aN i4.y (vV i4.z)):=aL hb.2.1 (SU hb.2.2.1);have m:=bF ky (cA 5);have s3:=rV (aL ky (cA 5)) (cA 4);rw [bHU] at s3;generalize aN i4.y (vV i4.z)=Y at *;generalize Bh i4 (UX i4) Fd=A at *;generalize UX i4=Ng at *;generalize i4=Bp at *;generalize dM=Np at *;simp only [eP,eF] at n a s1 s2 y m s3;refine (aT4 ..).trans ?_;rw [tr,aC,aC,b,aC,n,aC,a,aC,ne,aC,s1,aC,aB,aC,s2,aC,jB,aB,y,aC,o5,aC,m,aC,o4,aC,s3,aC];rfl
 ·cases ht
theorem aUm:(fv (fe 1):Int)=1:=by decide +kernel
theorem aUo:jW (vV (fe 1)) (fe 1)=true:=by decide +kernel
theorem mul_one {x:Fe} (hx:cS x):jW (aN x (vV (fe 1))) x=true:=by
 refine FZ.2 ((iU x _).trans (((cg.refl _).mul (FZ.1 aUo)).trans ?_));rw [aUm,Int.mul_one];exact cg.refl _
theorem SW (n:Nat):vB (lo 32 (n%aK))=n%aK:=by
 rw [Fa,aY];exact cZ (fG n) (by decide)
theorem Gt (n:Nat):dP (lo 32 n)=true:=by rw [dP,fS,vX]; rfl
end
end Go.Eng
