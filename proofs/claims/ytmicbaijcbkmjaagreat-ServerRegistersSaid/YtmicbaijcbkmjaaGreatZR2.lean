import Derived.Test.YtmicbaijcbkmjaaGreatZR1
namespace Go.Eng
open Go.IntKind (u64 i64 u8)
noncomputable section
set_option linter.all false
def dg (x i:Nat):Nat:=x / 256 ^ i%256
theorem uM (x i:Nat):dg x i < 256:=bK _ (by decide)
theorem Ac (x i:Nat) (h:i < (nb x).length):(nb x).getD i 0=((dg x i:Nat):Int):=aJD x i h
theorem EI (x i:Nat) (h:(nb x).length <= i):x / 256 ^ i=0:=by
 refine jJ (cU (rJ x) (iK (by decide) h))
theorem BI (x i:Nat) (h:(nb x).length <= i):dg x i=0:=by rw [dg,EI x i h]
theorem Ad (x i:Nat):x / 256 ^ (i+1)=x / 256 ^ i / 256:=by rw [bM,gR]
theorem Oj (l:List Int) (d:Nat):vB (l++[((d:Nat):Int)])=vB l+256 ^ l.length*d:=by
 rw [aC4]; simp [vB]
theorem Rp {l:List Int} (h:jE l=true) {d:Nat} (hd:d < 256):jE (l++[((d:Nat):Int)])=true:=by
 rw [V6,h]; simp [jE]; omega
theorem Ux:∀ (l:List Int) (i v:Nat),i < l.length->jE l=true->vB (l.set i (v:Int))+256 ^ i*(l.getD i 0).toNat=vB l+256 ^ i*v:=by
 intro l
 induction l with
 | nil=>intro i v h; simp at h
 | cons x r ih=>
  intro i v h hk;simp only [jE,aX,bG] at hk;cases i with
  | zero=>simp [vB]; omega
  | succ i=>
   have:=ih i v (by simpa using h) hk.2;simp only [Hj,As,vB,bM];rw [cG (256 ^ i) 256,d9,d9]; omega
theorem Ol:∀ (l:List Int) (i v:Nat),jE l=true->v < 256->jE (l.set i (v:Int))=true:=by
 intro l
 induction l with
 | nil=>intro i v h _; simp [jE]
 | cons x r ih=>
  intro i v h hv;simp only [jE,aX] at h;cases i with
  | zero=>simp [jE,h.2]; omega
  | succ i=>simp only [Hj,jE,h.1,ih i v h.2 hv,Fm]
theorem Jh {l:List Int} (h:jE l=true) (i:Nat):0 <= l.getD i 0 /\ l.getD i 0 < 256:=by
 induction l generalizing i with
 | nil=>simp
 | cons x r ih=>
  simp only [jE,aX,bG] at h;cases i with
  | zero=>simpa using h.1
  | succ i=>rw [As]; exact ih h.2 i
theorem Xt:∀ (l:List Int) (k:Nat),jE l=true->vB (l.take k)=vB l%256 ^ k:=by
 intro l
 induction l with
 | nil=>intro k _; simp [vB]
 | cons x r ih=>
  intro k h;simp only [jE,aX,bG] at h;cases k with
  | zero=>simp [vB,uV]
  | succ k=>
   simp only [yT,vB,ih k h.2];rw [bM,cG (256 ^ k),uU];have e1:(x.toNat+256*vB r)%256=x.toNat:=by omega
   have e2:(x.toNat+256*vB r) / 256=vB r:=by omega
   rw [e1,e2]
theorem Rq {l:List Int} (k:Nat) (h:jE l=true):jE (l.take k)=true:=by
 induction l generalizing k with
 | nil=>simp [jE]
 | cons x r ih=>
  simp only [jE,aX] at h;cases k with
  | zero=>rfl
  | succ k=>simp only [yT,jE,h.1,ih k h.2,Fm]
theorem Xu (k:Nat):jE (List.replicate k 0)=true:=by
 induction k with
 | zero=>rfl
 | succ k ih=>simp only [Fy,jE,ih]; rfl
theorem aGI (k:Nat):vB (List.replicate k 0)=0:=by
 induction k with
 | zero=>rfl
 | succ k ih=>simp [Fy,vB,ih]
theorem aAA (x y k:Nat):qO (x%256 ^ (k+1)) (y%256 ^ (k+1))=cond (decide (dg x k < dg y k)) (-1) (cond (decide (dg y k < dg x k)) 1 (qO (x%256 ^ k) (y%256 ^ k))):=by
 have hx:x%256 ^ (k+1)=x%256 ^ k+256 ^ k*dg x k:=by rw [bM,uU]; rfl
 have hy:y%256 ^ (k+1)=y%256 ^ k+256 ^ k*dg y k:=by rw [bM,uU]; rfl
 have hp:0 < 256 ^ k:=gS (by decide);have bx:=bK x hp;have byy:=bK y hp;rw [hx,hy];generalize 256 ^ k=B at *;generalize x%B=r at *;generalize y%B=s at *;generalize dg x k=p at *;generalize dg y k=q at *;unfold qO;by_cases h1:p < q
 ·have:B*p+B <= B*q:=by rw [<-Nat.mul_succ]; exact yU _ h1
  have h2:r+B*p < s+B*q:=by omega
  simp [h1,h2]
 ·by_cases h2:q < p
  ·have:B*q+B <= B*p:=by rw [<-Nat.mul_succ]; exact yU _ h2
   have h3:s+B*q < r+B*p:=by omega
   have h4:¬ r+B*p < s+B*q:=by omega
   simp [h1,h2,h3,h4]
  ·have:p=q:=by omega
   subst this;simp
theorem Xv {x y:Nat} (h:(nb x).length < (nb y).length):x < y :=
 cU (rJ x) (K2 h)
theorem aAB (V B X Y c x:Nat) (h:V+B*(c+X+Y)=x):V+B*((c+X%256+Y%256)%256)+B*256*((c+X%256+Y%256) / 256+X / 256+Y / 256)=x:=by
 rw [<-h,d9,sI,<-uW];congr 2; omega
theorem aAC (V B X Y c x y t c':Nat) (h:V+y+B*X=x+B*(Y+c)) (ht:t+c+Y%256=X%256+256*c'):V+B*t+y+B*256*(X / 256)=x+B*256*(Y / 256+c'):=by
 have e:t+256*(X / 256)+(Y+c)=X+256*(Y / 256+c'):=by omega
 have:=dQ (B*·) e;simp only [uW] at this h ⊢;rw [d9,d9,d9];have a1:B*(256*(X / 256))=256*(B*(X / 256)):=by rw [Eg]
 omega
theorem aAD (V V' B o c a Y t T:Nat) (h:V+B*(c+a*Y)=T) (hv:V'+B*o=V+B*(t%256)) (ht:t=o+c+a*(Y%256)):V'+B*256*(t / 256+a*(Y / 256))=T:=by
 have e:t%256+256*(t / 256)+256*(a*(Y / 256))=o+(c+a*Y):=by
  have h1:t%256+256*(t / 256)=t:=Nat.mod_add_div _ _;have h2:a*Y=a*(Y%256)+256*(a*(Y / 256)):=by
   rw [Eg,<-uW,Nat.mod_add_div]
  omega
 have:=dQ (B*·) e;simp only [uW] at this h ⊢;rw [d9,d9];omega
open Go Go.Proofs
def Ji:Cg:=⟨⟨dE [],[],dR⟩,[(3,[0,3],[0,3])]⟩
def Jj (n0:Nat) (v3:Int) (n21:Nat) (t_0:TypeId) (gB:Nat) (aQ:List Int):St:={ tm:=[(0,.s (.own 0 n0 1)),(3,.int .i64 v3),(21,.s (.own 0 n21 1))],hp:=[(0,{ ty:=t_0,n:=gB,row:=Row.t (.ints .i64 aQ) })],nx:=1,sz:=21 }
def Om:Code:=cM (bN [1,1,0,2] (bD Tryz.f57))
def Jk (fu:Nat) (n:Nat):=lP prog Ji fu [1,1,0,2] (bD Tryz.f57) (O6 prog Tryz.f57 (n) ((1:Nat)))
abbrev aVW (fu:Nat) (n:Nat) (n0:Nat) (v3:Int) (n21:Nat) (t_0:TypeId) (gB:Nat) (aQ:List Int):=eS prog Ji fu Om (Jk fu n) fu (some (Jj n0 v3 n21 t_0 gB aQ))
theorem aVX (fu:Nat) (ty:TypeId) (xs:List Int) (n:Nat):aNs prog Tryz.f57 Ji fu (ty) (.ints .i64 xs) (n) (1) ([])=aVW fu n n (n:Int) n ty (n*1) xs:=by kernel_rfl
def EJ (n0:Nat) (v3:Int) (n21:Nat) (t_0:TypeId) (gB:Nat) (aQ:List Int):St:={ tm:=[(0,.s (.own 0 n0 1)),(3,.int .i64 v3),(21,.s (.own 0 n21 1))],hp:=[(0,{ ty:=t_0,n:=gB,row:=Row.t (.ints .i64 aQ) })],nx:=1,sz:=21 }
theorem aGJ {β:Type} (fu:Nat) (G:FG β) (H:FH β) (n0:Nat) (v3:Int) (n21:Nat) (t_0:TypeId) (gB:Nat) (aQ:List Int):fI prog Ji fu Om G H (Jj n0 v3 n21 t_0 gB aQ)=bif decide (0 < v3) then bif decide (0 <= i64.wrap (v3 - 1) /\ i64.wrap (v3 - 1) < (n0:Int)) then bif decide (aQ.getD (i64.wrap (v3 - 1)).toNat (0:Int)=0) then G (some (Jj n0 (i64.wrap (v3 - 1)) n21 t_0 gB aQ)) else H (Ex.exit 0) (some (EJ n0 v3 n21 t_0 gB aQ)) else none else H (Ex.exit 0) (some (EJ n0 v3 n21 t_0 gB aQ)):=by kernel_rfl
theorem aGK (fu:Nat) (n:Nat) (n0:Nat) (v3:Int) (n21:Nat) (t_0:TypeId) (gB:Nat) (aQ:List Int):Jk fu n (Ex.exit 0) (EJ n0 v3 n21 t_0 gB aQ)=bif decide ((0:Int) <= 0 /\ 0 <= v3 /\ v3 <= (n0:Int)) then bif n21.beq n && true then some (AV.s (.sub 0 0 (v3 - 0).toNat 1),.ints .i64 aQ) else none else none:=by kernel_rfl
def Uy:Cg:=⟨⟨dE [],[],dR⟩,[(3,[0,3],[0,3])]⟩
def Rr (x0:List Int) (n0:Nat) (v3:Int):St:={ tm:=[(0,.s (dI x0 n0)),(3,.int .i64 v3)],hp:=[],nx:=0,sz:=21 }
def Xw:Code:=cM (bN [1,1,0,2] (bD Tryz.f57))
def Rs (fu:Nat):=lP prog Uy fu [1,1,0,2] (bD Tryz.f57) (fT prog Tryz.f57)
abbrev aYT (fu:Nat) (x0:List Int) (n0:Nat) (v3:Int):=eS prog Uy fu Xw (Rs fu ) fu (some (Rr x0 n0 v3))
theorem aYU (fu:Nat) (xs:List Int) (n:Nat):bB prog Tryz.f57 Uy fu [.s (dI xs n)]=aYT fu xs n (n:Int):=by kernel_rfl
def HX (x0:List Int) (n0:Nat) (v3:Int):St:={ tm:=[(0,.s (dI x0 n0)),(3,.int .i64 v3)],hp:=[],nx:=0,sz:=21 }
theorem aPC {β:Type} (fu:Nat) (G:FG β) (H:FH β) (x0:List Int) (n0:Nat) (v3:Int):fI prog Uy fu Xw G H (Rr x0 n0 v3)=bif decide (0 < v3) then bif decide (0 <= i64.wrap (v3 - 1) /\ i64.wrap (v3 - 1) < (n0:Int)) then bif decide (x0.getD (i64.wrap (v3 - 1)).toNat (0:Int)=0) then G (some (Rr x0 n0 (i64.wrap (v3 - 1)))) else H (Ex.exit 0) (some (HX x0 n0 v3)) else none else H (Ex.exit 0) (some (HX x0 n0 v3)):=by kernel_rfl
theorem aMB (fu:Nat) (x0:List Int) (n0:Nat) (v3:Int):Rs fu  (Ex.exit 0) (HX x0 n0 v3)=bif decide ((0:Int) <= 0 /\ 0 <= v3 /\ v3 <= (n0:Int)) then some (AV.s (.dat (.ints .i64 (List.take ((v3 - 0).toNat*1) (List.drop 0 x0))) (v3 - 0).toNat 1)) else none:=by kernel_rfl
section
variable (T0:Type) (R0:FA T0) (aG:T0->List Int) (aM:T0->Nat)
def aGL:Cg:=⟨⟨dE [(57,⟨R0,λ t=>AV.s (dI (aG t) (aM t))⟩)],[3],efs [(57,(EZ E5))]⟩,[(4,[0,3,4],[3])]⟩
def Xx (s0:Str) (n3:Nat) (v4:Int) (gB:Nat) (aQ:List Int):St:={ tm:=[(0,.str s0),(3,.s (.own 0 n3 1)),(4,.int .i64 v4)],hp:=[(0,{ ty:=3,n:=gB,row:=Row.t (.ints .i64 aQ) })],nx:=1,sz:=20 }
def aGM:Code:=cM (bN [1,1,0,1,2] (bD Tryz.f28))
def aGN (fu:Nat):=lP prog (aGL T0 R0 aG aM) fu [1,1,0,1,2] (bD Tryz.f28) (fT prog Tryz.f28)
abbrev aYV (fu:Nat) (s0:Str) (n3:Nat) (v4:Int) (gB:Nat) (aQ:List Int):=eS prog (aGL T0 R0 aG aM) fu aGM (aGN T0 R0 aG aM fu ) fu (some (Xx s0 n3 v4 gB aQ))
theorem aYW (fu:Nat) (s:Str):bB prog Tryz.f28 (aGL T0 R0 aG aM) fu [.str s]=aYV T0 R0 aG aM fu s 0 0 0 []:=by kernel_rfl
def Xy (n3 gB:Nat) (aQ:List Int):St:={ tm:=[(3,.s (.own 0 n3 1))],hp:=[(0,{ ty:=3,n:=gB,row:=Row.t (.ints .i64 aQ) })],nx:=1,sz:=20 }
theorem aPD {β:Type} (fu:Nat) (G:FG β) (H:FH β) (s0:Str) (n3:Nat) (v4:Int) (gB:Nat) (aQ:List Int):fI prog (aGL T0 R0 aG aM) fu aGM G H (Xx s0 n3 v4 gB aQ)=bif decide (v4 < (↑(List.length s0):Int)) then bif decide (0 <= v4 /\ v4 < (↑(List.length s0):Int)) then bif decide (n3+1 <= 1099511627776) then G (some (Xx s0 (n3+1) (i64.wrap (v4+1)) ((n3+1)*1) (aQ++[i64.wrap (↑(List.getD s0 v4.toNat (0:UInt8)).toNat:Int)]))) else none else none else H (Ex.exit 0) (some (Xy n3 gB aQ)):=by kernel_rfl
theorem aMC (fu:Nat) (n3 gB:Nat) (aQ:List Int):aGN T0 R0 aG aM fu  (Ex.exit 0) (Xy n3 gB aQ)=bif decide (n3 <= 1099511627776) then some (AV.s (dI (List.take (cA aQ*1) (List.drop 0 aQ)) (cA aQ))) else none:=by kernel_rfl
end
def aAE:Cg:=⟨⟨dE [],[3],dR⟩,[(3,[0,3],[3])]⟩
def Xz (v0:Int) (n3 gB:Nat) (aQ:List Int):St:={ tm:=[(0,.int .u64 v0),(3,.s (.own 0 n3 1))],hp:=[(0,{ ty:=3,n:=gB,row:=Row.t (.ints .i64 aQ) })],nx:=1,sz:=15 }
def aGO:Code:=cM (bN [1,1,0,2] (bD Tryz.f42))
def aGP (fu:Nat):=lP prog aAE fu [1,1,0,2] (bD Tryz.f42) (fT prog Tryz.f42)
abbrev aYX (fu:Nat) (v0:Int) (n3 gB:Nat) (aQ:List Int):=eS prog aAE fu aGO (aGP fu ) fu (some (Xz v0 n3 gB aQ))
theorem aYY (fu:Nat) (v:Int):bB prog Tryz.f42 aAE fu [.int .u64 v]=aYX fu v 0 0 []:=by kernel_rfl
def X0 (n3 gB:Nat) (aQ:List Int):St:={ tm:=[(3,.s (.own 0 n3 1))],hp:=[(0,{ ty:=3,n:=gB,row:=Row.t (.ints .i64 aQ) })],nx:=1,sz:=15 }
theorem aPE {β:Type} (fu:Nat) (G:FG β) (H:FH β) (v0:Int) (n3 gB:Nat) (aQ:List Int):fI prog aAE fu aGO G H (Xz v0 n3 gB aQ)=bif decide (0 < v0) then bif decide (n3+1 <= 1099511627776) then G (some (Xz (u64.wrap (v0.tdiv 256)) (n3+1) ((n3+1)*1) (aQ++[i64.wrap (v0.tmod 256)]))) else none else H (Ex.exit 0) (some (X0 n3 gB aQ)):=by kernel_rfl
theorem X1 (fu:Nat) (n3 gB:Nat) (aQ:List Int):aGP fu  (Ex.exit 0) (X0 n3 gB aQ)=some (AV.s (dI aQ n3)):=by kernel_rfl
def aAF:Cg:=⟨⟨dE [],[],dR⟩,[(7,[0,1,5],[4])]⟩
def X2 (x0:List Int) (n0:Nat) (x1:List Int) (n1:Nat) (v5:Int):St:={ tm:=[(0,.s (dI x0 n0)),(1,.s (dI x1 n1)),(5,.int .i64 v5)],hp:=[],nx:=0,sz:=41 }
def aGQ:Code:=cM (bN [1,1,0,1,2] (bD Tryz.f44))
def X3 (fu:Nat):=lP prog aAF fu [1,1,0,1,2] (bD Tryz.f44) (fT prog Tryz.f44)
abbrev aYZ (fu:Nat) (x0:List Int) (n0:Nat) (x1:List Int) (n1:Nat) (v5:Int):=eS prog aAF fu aGQ (X3 fu ) fu (some (X2 x0 n0 x1 n1 v5))
theorem aY0 (fu:Nat) (a:List Int) (n:Nat) (b:List Int) (m:Nat):bB prog Tryz.f44 aAF fu [.s (dI a n),.s (dI b m)]=bif !decide ((n:Int)=(m:Int)) then bif decide ((n:Int) < (m:Int)) then some (AV.int .i64 (-1:Int)) else some (AV.int .i64 1) else aYZ fu a n b m (i64.wrap ((n:Int) - 1)):=by kernel_rfl
def Uz (v4:Int):St:={ tm:=[(4,.int .i64 v4)],hp:=[],nx:=0,sz:=41 }
def X4:St:={ tm:=[(4,.s SV.junk)],hp:=[],nx:=0,sz:=41 }
theorem aPF {β:Type} (fu:Nat) (G:FG β) (H:FH β) (x0:List Int) (n0:Nat) (x1:List Int) (n1:Nat) (v5:Int):fI prog aAF fu aGQ G H (X2 x0 n0 x1 n1 v5)=bif decide (0 <= v5) then bif decide (0 <= v5 /\ v5 < (n0:Int)) then bif decide (0 <= v5 /\ v5 < (n1:Int)) then bif decide (x0.getD v5.toNat 0 < x1.getD v5.toNat 0) then H Ex.ret (some (Uz (-1:Int))) else bif decide (0 <= v5 /\ v5 < (n0:Int)) then bif decide (0 <= v5 /\ v5 < (n1:Int)) then bif decide (x1.getD v5.toNat 0 < x0.getD v5.toNat 0) then H Ex.ret (some (Uz 1)) else G (some (X2 x0 n0 x1 n1 (i64.wrap (v5 - 1)))) else none else none else none else none else H (Ex.exit 0) (some X4):=by kernel_rfl
theorem aGR (fu:Nat) (v4:Int):X3 fu  Ex.ret (Uz v4)=some (AV.int .i64 v4):=by kernel_rfl
theorem aMD (fu:Nat):X3 fu  (Ex.exit 0) (X4 )=some (AV.int .i64 0):=by kernel_rfl
section
variable (T0:Type) (R0:FA T0) (aG:T0->List Int) (aM:T0->Nat)
def aGS:Cg:=⟨⟨dE [(57,⟨R0,λ t=>AV.s (dI (aG t) (aM t))⟩)],[5],efs [(57,(EZ E5))]⟩,[(5,[0,1,5,6,7],[5])]⟩
def wS (x0:List Int) (n0:Nat) (x1:List Int) (n1 n5:Nat) (v6 v7:Int) (gB:Nat) (aQ:List Int):St:={ tm:=[(0,.s (dI x0 n0)),(1,.s (dI x1 n1)),(5,.s (.own 0 n5 1)),(6,.int .i64 v6),(7,.int .i64 v7)],hp:=[(0,{ ty:=3,n:=gB,row:=Row.t (.ints .i64 aQ) })],nx:=1,sz:=53 }
def X5:Code:=cM (bN [1,1,1,0,1,2] (bD Tryz.f53))
def X6 (fu:Nat):=lP prog (aGS T0 R0 aG aM) fu [1,1,1,0,1,2] (bD Tryz.f53) (fT prog Tryz.f53)
abbrev aY1 (fu:Nat) (x0:List Int) (n0:Nat) (x1:List Int) (n1 n5:Nat) (v6 v7:Int) (gB:Nat) (aQ:List Int):=eS prog (aGS T0 R0 aG aM) fu X5 (X6 T0 R0 aG aM fu ) fu (some (wS x0 n0 x1 n1 n5 v6 v7 gB aQ))
theorem aY2 (fu:Nat) (a:List Int) (n:Nat) (b:List Int) (m:Nat):bB prog Tryz.f53 (aGS T0 R0 aG aM) fu [.s (dI a n),.s (dI b m)]=aY1 T0 R0 aG aM fu a n b m 0 0 0 0 []:=by kernel_rfl
def HY (n5 gB:Nat) (aQ:List Int):St:={ tm:=[(5,.s (.own 0 n5 1))],hp:=[(0,{ ty:=3,n:=gB,row:=Row.t (.ints .i64 aQ) })],nx:=1,sz:=53 }
theorem aY3 {β:Type} (fu:Nat) (G:FG β) (H:FH β) (x0:List Int) (n0:Nat) (x1:List Int) (n1 n5:Nat) (v6 v7:Int) (gB:Nat) (aQ:List Int):fI prog (aGS T0 R0 aG aM) fu X5 G H (wS x0 n0 x1 n1 n5 v6 v7 gB aQ)=bif decide (v7 < (n0:Int)) then bif decide (v7 < (n0:Int)) then bif decide (0 <= v7 /\ v7 < (n0:Int)) then bif decide (v7 < (n1:Int)) then bif decide (0 <= v7 /\ v7 < (n1:Int)) then bif decide (n5+1 <= 1099511627776) then G (some (wS x0 n0 x1 n1 (n5+1) (i64.wrap ((i64.wrap (i64.wrap (v6+x0.getD v7.toNat 0)+x1.getD v7.toNat 0)).tdiv 256)) (i64.wrap (v7+1)) ((n5+1)*1) (aQ++[(i64.wrap (i64.wrap (v6+x0.getD v7.toNat 0)+x1.getD v7.toNat 0)).tmod 256]))) else none else none else bif decide (n5+1 <= 1099511627776) then G (some (wS x0 n0 x1 n1 (n5+1) (i64.wrap ((i64.wrap (v6+x0.getD v7.toNat 0)).tdiv 256)) (i64.wrap (v7+1)) ((n5+1)*1) (aQ++[(i64.wrap (v6+x0.getD v7.toNat 0)).tmod 256]))) else none else none else bif decide (v7 < (n1:Int)) then bif decide (0 <= v7 /\ v7 < (n1:Int)) then bif decide (n5+1 <= 1099511627776) then G (some (wS x0 n0 x1 n1 (n5+1) (i64.wrap ((i64.wrap (v6+x1.getD v7.toNat 0)).tdiv 256)) (i64.wrap (v7+1)) ((n5+1)*1) (aQ++[(i64.wrap (v6+x1.getD v7.toNat 0)).tmod 256]))) else none else none else bif decide (n5+1 <= 1099511627776) then G (some (wS x0 n0 x1 n1 (n5+1) (i64.wrap (v6.tdiv 256)) (i64.wrap (v7+1)) ((n5+1)*1) (aQ++[v6.tmod 256]))) else none else bif decide (v7 < (n1:Int)) || decide (0 < v6) then bif decide (v7 < (n0:Int)) then bif decide (0 <= v7 /\ v7 < (n0:Int)) then bif decide (v7 < (n1:Int)) then bif decide (0 <= v7 /\ v7 < (n1:Int)) then bif decide (n5+1 <= 1099511627776) then G (some (wS x0 n0 x1 n1 (n5+1) (i64.wrap ((i64.wrap (i64.wrap (v6+x0.getD v7.toNat 0)+x1.getD v7.toNat 0)).tdiv 256)) (i64.wrap (v7+1)) ((n5+1)*1) (aQ++[(i64.wrap (i64.wrap (v6+x0.getD v7.toNat 0)+x1.getD v7.toNat 0)).tmod 256]))) else none else none else bif decide (n5+1 <= 1099511627776) then G (some (wS x0 n0 x1 n1 (n5+1) (i64.wrap ((i64.wrap (v6+x0.getD v7.toNat 0)).tdiv 256)) (i64.wrap (v7+1)) ((n5+1)*1) (aQ++[(i64.wrap (v6+x0.getD v7.toNat 0)).tmod 256]))) else none else none else bif decide (v7 < (n1:Int)) then bif decide (0 <= v7 /\ v7 < (n1:Int)) then bif decide (n5+1 <= 1099511627776) then G (some (wS x0 n0 x1 n1 (n5+1) (i64.wrap ((i64.wrap (v6+x1.getD v7.toNat 0)).tdiv 256)) (i64.wrap (v7+1)) ((n5+1)*1) (aQ++[(i64.wrap (v6+x1.getD v7.toNat 0)).tmod 256]))) else none else none else bif decide (n5+1 <= 1099511627776) then G (some (wS x0 n0 x1 n1 (n5+1) (i64.wrap (v6.tdiv 256)) (i64.wrap (v7+1)) ((n5+1)*1) (aQ++[v6.tmod 256]))) else none else H (Ex.exit 0) (some (HY n5 gB aQ)):=by kernel_rfl
theorem aME (fu:Nat) (n5 gB:Nat) (aQ:List Int):X6 T0 R0 aG aM fu  (Ex.exit 0) (HY n5 gB aQ)=bif decide (n5 <= 1099511627776) then some (AV.s (dI (List.take (cA aQ*1) (List.drop 0 aQ)) (cA aQ))) else none:=by kernel_rfl
end
section
variable (T0:Type) (R0:FA T0) (aG:T0->List Int) (aM:T0->Nat)
def aGT:Cg:=⟨⟨dE [(57,⟨R0,λ t=>AV.s (dI (aG t) (aM t))⟩)],[5],efs [(57,(EZ E5))]⟩,[(5,[0,1,5,6,7],[5])]⟩
def zB (x0:List Int) (n0:Nat) (x1:List Int) (n1 n5:Nat) (v6 v7:Int) (gB:Nat) (aQ:List Int):St:={ tm:=[(0,.s (dI x0 n0)),(1,.s (dI x1 n1)),(5,.s (.own 0 n5 1)),(6,.int .i64 v6),(7,.int .i64 v7)],hp:=[(0,{ ty:=3,n:=gB,row:=Row.t (.ints .i64 aQ) })],nx:=1,sz:=41 }
def X7:Code:=cM (bN [1,1,1,0,1,2] (bD Tryz.f55))
def aGU (fu:Nat):=lP prog (aGT T0 R0 aG aM) fu [1,1,1,0,1,2] (bD Tryz.f55) (fT prog Tryz.f55)
abbrev aY4 (fu:Nat) (x0:List Int) (n0:Nat) (x1:List Int) (n1 n5:Nat) (v6 v7:Int) (gB:Nat) (aQ:List Int):=eS prog (aGT T0 R0 aG aM) fu X7 (aGU T0 R0 aG aM fu ) fu (some (zB x0 n0 x1 n1 n5 v6 v7 gB aQ))
theorem aY5 (fu:Nat) (a:List Int) (n:Nat) (b:List Int) (m:Nat):bB prog Tryz.f55 (aGT T0 R0 aG aM) fu [.s (dI a n),.s (dI b m)]=aY4 T0 R0 aG aM fu a n b m 0 0 0 0 []:=by kernel_rfl
def Oo (n5 gB:Nat) (aQ:List Int):St:={ tm:=[(5,.s (.own 0 n5 1))],hp:=[(0,{ ty:=3,n:=gB,row:=Row.t (.ints .i64 aQ) })],nx:=1,sz:=41 }
theorem aY6 {β:Type} (fu:Nat) (G:FG β) (H:FH β) (x0:List Int) (n0:Nat) (x1:List Int) (n1 n5:Nat) (v6 v7:Int) (gB:Nat) (aQ:List Int):fI prog (aGT T0 R0 aG aM) fu X7 G H (zB x0 n0 x1 n1 n5 v6 v7 gB aQ)=bif decide (v7 < (n0:Int)) then bif decide (0 <= v7 /\ v7 < (n0:Int)) then bif decide (v7 < (n1:Int)) then bif decide (0 <= v7 /\ v7 < (n1:Int)) then bif decide (i64.wrap (i64.wrap (x0.getD v7.toNat 0 - v6) - x1.getD v7.toNat 0) < 0) then bif decide (n5+1 <= 1099511627776) then G (some (zB x0 n0 x1 n1 (n5+1) 1 (i64.wrap (v7+1)) ((n5+1)*1) (aQ++[i64.wrap (i64.wrap (i64.wrap (x0.getD v7.toNat 0 - v6) - x1.getD v7.toNat 0)+256)]))) else none else bif decide (n5+1 <= 1099511627776) then G (some (zB x0 n0 x1 n1 (n5+1) 0 (i64.wrap (v7+1)) ((n5+1)*1) (aQ++[i64.wrap (i64.wrap (x0.getD v7.toNat 0 - v6) - x1.getD v7.toNat 0)]))) else none else none else bif decide (i64.wrap (x0.getD v7.toNat 0 - v6) < 0) then bif decide (n5+1 <= 1099511627776) then G (some (zB x0 n0 x1 n1 (n5+1) 1 (i64.wrap (v7+1)) ((n5+1)*1) (aQ++[i64.wrap (i64.wrap (x0.getD v7.toNat 0 - v6)+256)]))) else none else bif decide (n5+1 <= 1099511627776) then G (some (zB x0 n0 x1 n1 (n5+1) 0 (i64.wrap (v7+1)) ((n5+1)*1) (aQ++[i64.wrap (x0.getD v7.toNat 0 - v6)]))) else none else none else H (Ex.exit 0) (some (Oo n5 gB aQ)):=by kernel_rfl
theorem aMF (fu:Nat) (n5 gB:Nat) (aQ:List Int):aGU T0 R0 aG aM fu  (Ex.exit 0) (Oo n5 gB aQ)=bif decide (n5 <= 1099511627776) then some (AV.s (dI (List.take (cA aQ*1) (List.drop 0 aQ)) (cA aQ))) else none:=by kernel_rfl
end
section
variable (T0:Type) (R0:FA T0) (aG:T0->List Int) (aM:T0->Nat)
def Oq:Cg:=⟨⟨dE [(57,⟨R0,λ t=>AV.s (dI (aG t) (aM t))⟩)],[],efs [(57,(EZ E5))]⟩,[(4,[0,1,5,6],[5]),(8,[0,1,5,6,7,8],[0,1,5,6])]⟩
def Ll (x0:List Int) (n0:Nat) (x1:List Int) (n1 n5:Nat) (v6:Int) (gB:Nat) (aQ:List Int):St:={ tm:=[(0,.s (dI x0 n0)),(1,.s (dI x1 n1)),(5,.s (.own 0 n5 1)),(6,.int .i64 v6)],hp:=[(0,{ ty:=3,n:=gB,row:=Row.t (.ints .i64 aQ) })],nx:=1,sz:=67 }
def Lm:Code:=cM (bN [1,1,0,1,2] (bD Tryz.f94))
def Rt (fu:Nat):=lP prog (Oq T0 R0 aG aM) fu [1,1,0,1,2] (bD Tryz.f94) (fT prog Tryz.f94)
abbrev aY7 (fu:Nat) (x0:List Int) (n0:Nat) (x1:List Int) (n1 n5:Nat) (v6:Int) (gB:Nat) (aQ:List Int):=eS prog (Oq T0 R0 aG aM) fu Lm (Rt T0 R0 aG aM fu ) fu (some (Ll x0 n0 x1 n1 n5 v6 gB aQ))
theorem aY8 (fu:Nat) (a:List Int) (n:Nat) (b:List Int) (m:Nat):bB prog Tryz.f94 (Oq T0 R0 aG aM) fu [.s (dI a n),.s (dI b m)]=bif decide (0 <= i64.wrap (i64.wrap ((n:Int)+(m:Int))+1) /\ i64.wrap (i64.wrap ((n:Int)+(m:Int))+1) <= i64.wrap (i64.wrap ((n:Int)+(m:Int))+1) /\ i64.wrap (i64.wrap ((n:Int)+(m:Int))+1) <= 1099511627776) then aY7 T0 R0 aG aM fu a n b m (i64.wrap (i64.wrap ((n:Int)+(m:Int))+1)).toNat 0 ((i64.wrap (i64.wrap ((n:Int)+(m:Int))+1)).toNat*1) (List.replicate (i64.wrap (i64.wrap ((n:Int)+(m:Int))+1)).toNat 0) else none:=by kernel_rfl
def GU (x0:List Int) (n0:Nat) (x1:List Int) (n1 n5:Nat) (v6 v7 v8:Int) (gB:Nat) (aQ:List Int):St:={ tm:=[(0,.s (dI x0 n0)),(1,.s (dI x1 n1)),(5,.s (.own 0 n5 1)),(6,.int .i64 v6),(7,.int .i64 v7),(8,.int .i64 v8)],hp:=[(0,{ ty:=3,n:=gB,row:=Row.t (.ints .i64 aQ) })],nx:=1,sz:=67 }
def Ru:Code:=cM (bN [1,1,0,1,2,6,1,0,2,1,1,2] (bD Tryz.f94))
def X8 {β:Type} (fu:Nat) (G:FG β) (H:FH β):=lP prog (Oq T0 R0 aG aM) fu [1,0,2,1,1,2] Lm (vE (Oq T0 R0 aG aM) Lm G H)
abbrev aY9 {β:Type} (fu:Nat) (G:FG β) (H:FH β) (x0:List Int) (n0:Nat) (x1:List Int) (n1 n5:Nat) (v6 v7 v8:Int) (gB:Nat) (aQ:List Int):=eS prog (Oq T0 R0 aG aM) fu Ru (X8 T0 R0 aG aM fu G H) fu (some (GU x0 n0 x1 n1 n5 v6 v7 v8 gB aQ))
def X9 (n5 gB:Nat) (aQ:List Int):St:={ tm:=[(5,.s (.own 0 n5 1))],hp:=[(0,{ ty:=3,n:=gB,row:=Row.t (.ints .i64 aQ) })],nx:=1,sz:=67 }
theorem aPG {β:Type} (fu:Nat) (G:FG β) (H:FH β) (x0:List Int) (n0:Nat) (x1:List Int) (n1 n5:Nat) (v6:Int) (gB:Nat) (aQ:List Int):fI prog (Oq T0 R0 aG aM) fu Lm G H (Ll x0 n0 x1 n1 n5 v6 gB aQ)=bif decide (v6 < (n0:Int)) then aY9 T0 R0 aG aM fu G H x0 n0 x1 n1 n5 v6 0 0 gB aQ else H (Ex.exit 0) (some (X9 n5 gB aQ)):=by kernel_rfl
def Ot (x0:List Int) (n0:Nat) (x1:List Int) (n1 n5:Nat) (v6:Int) (gB:Nat) (aQ:List Int):St:={ tm:=[(0,.s (dI x0 n0)),(1,.s (dI x1 n1)),(5,.s (.own 0 n5 1)),(6,.int .i64 v6)],hp:=[(0,{ ty:=3,n:=gB,row:=Row.t (.ints .i64 aQ) })],nx:=1,sz:=67 }
theorem aZa {β:Type} (fu:Nat) (G:FG β) (H:FH β) (x0:List Int) (n0:Nat) (x1:List Int) (n1 n5:Nat) (v6 v7 v8:Int) (gB:Nat) (aQ:List Int):fI prog (Oq T0 R0 aG aM) fu Ru G H (GU x0 n0 x1 n1 n5 v6 v7 v8 gB aQ)=bif decide (v8 < (n1:Int)) || decide (0 < v7) then bif decide (0 <= i64.wrap (v6+v8) /\ i64.wrap (v6+v8) < (n5:Int)) then bif decide (v8 < (n1:Int)) then bif decide (0 <= v6 /\ v6 < (n0:Int)) then bif decide (0 <= v8 /\ v8 < (n1:Int)) then bif decide (0 <= i64.wrap (v6+v8) /\ i64.wrap (v6+v8) < (n5:Int)) then G (some (GU x0 n0 x1 n1 n5 v6 (i64.wrap ((i64.wrap (i64.wrap (aQ.getD (i64.wrap (v6+v8)).toNat 0+v7)+i64.wrap (x0.getD v6.toNat 0*x1.getD v8.toNat 0))).tdiv 256)) (i64.wrap (v8+1)) gB (aQ.set (i64.wrap (v6+v8)).toNat ((i64.wrap (i64.wrap (aQ.getD (i64.wrap (v6+v8)).toNat 0+v7)+i64.wrap (x0.getD v6.toNat 0*x1.getD v8.toNat 0))).tmod 256)))) else none else none else none else bif decide (0 <= i64.wrap (v6+v8) /\ i64.wrap (v6+v8) < (n5:Int)) then G (some (GU x0 n0 x1 n1 n5 v6 (i64.wrap ((i64.wrap (aQ.getD (i64.wrap (v6+v8)).toNat 0+v7)).tdiv 256)) (i64.wrap (v8+1)) gB (aQ.set (i64.wrap (v6+v8)).toNat ((i64.wrap (aQ.getD (i64.wrap (v6+v8)).toNat 0+v7)).tmod 256)))) else none else none else H (Ex.exit 2) (some (Ot x0 n0 x1 n1 n5 v6 gB aQ)):=by kernel_rfl
theorem aMG (fu:Nat) (n5 gB:Nat) (aQ:List Int):Rt T0 R0 aG aM fu  (Ex.exit 0) (X9 n5 gB aQ)=bif decide (n5 <= 1099511627776) then some (AV.s (dI (List.take (cA aQ*1) (List.drop 0 aQ)) (cA aQ))) else none:=by kernel_rfl
theorem aMH {β:Type} (fu:Nat) (G:FG β) (H:FH β) (x0:List Int) (n0:Nat) (x1:List Int) (n1 n5:Nat) (v6:Int) (gB:Nat) (aQ:List Int):X8 T0 R0 aG aM fu G H (Ex.exit 2) (Ot x0 n0 x1 n1 n5 v6 gB aQ)=G (some (Ll x0 n0 x1 n1 n5 (i64.wrap (v6+1)) gB aQ)):=by kernel_rfl
end
def aAG:Cg:=⟨⟨dE [],[],dR⟩,[(6,[1,5,6],[5])]⟩
def YA (v1 v5 v6:Int):St:={ tm:=[(1,.int .i64 v1),(5,.int .i64 v5),(6,.int .i64 v6)],hp:=[],nx:=0,sz:=31 }
def aGV:Code:=cM (bN [1,1,1,0,1,2] (bD Tryz.f54))
def aGW (fu:Nat):=lP prog aAG fu [1,1,1,0,1,2] (bD Tryz.f54) (fT prog Tryz.f54)
abbrev aZb (fu:Nat) (v1 v5 v6:Int):=eS prog aAG fu aGV (aGW fu ) fu (some (YA v1 v5 v6))
theorem aZc (fu:Nat) (a:List Int) (n:Nat) (i:Int):bB prog Tryz.f54 aAG fu [.s (dI a n),.int .i64 i]=bif decide (i < 0) then some (AV.int .i64 0) else bif decide ((n:Int) <= i64.wrap (i.tdiv 8)) then some (AV.int .i64 0) else bif decide (0 <= i64.wrap (i.tdiv 8) /\ i64.wrap (i.tdiv 8) < (n:Int)) then aZb fu i (a.getD (i64.wrap (i.tdiv 8)).toNat 0) 0 else none:=by kernel_rfl
def YB (v5:Int):St:={ tm:=[(5,.int .i64 v5)],hp:=[],nx:=0,sz:=31 }
theorem aPH {β:Type} (fu:Nat) (G:FG β) (H:FH β) (v1 v5 v6:Int):fI prog aAG fu aGV G H (YA v1 v5 v6)=bif decide (v6 < v1.tmod 8) then G (some (YA v1 (i64.wrap (v5.tdiv 2)) (i64.wrap (v6+1)))) else H (Ex.exit 0) (some (YB v5)):=by kernel_rfl
theorem aMI (fu:Nat) (v5:Int):aGW fu  (Ex.exit 0) (YB v5)=some (AV.int .i64 (v5.tmod 2)):=by kernel_rfl
section
variable (T0:Type) (R0:FA T0) (aG:T0->Int)
def aGX:Cg:=⟨⟨dE [(54,⟨R0,λ t=>AV.int .i64 (aG t)⟩)],[],dR⟩,[(3,[0,3],[3])]⟩
def YC (x0:List Int) (n0:Nat) (v3:Int):St:={ tm:=[(0,.s (dI x0 n0)),(3,.int .i64 v3)],hp:=[],nx:=0,sz:=19 }
def aGY:Code:=cM (bN [1,1,0,2] (bD Tryz.f100))
def aGZ (fu:Nat):=lP prog (aGX T0 R0 aG) fu [1,1,0,2] (bD Tryz.f100) (fT prog Tryz.f100)
abbrev aZd (fu:Nat) (x0:List Int) (n0:Nat) (v3:Int):=eS prog (aGX T0 R0 aG) fu aGY (aGZ T0 R0 aG fu ) fu (some (YC x0 n0 v3))
theorem aZe (fu:Nat) (a:List Int) (n:Nat):bB prog Tryz.f100 (aGX T0 R0 aG) fu [.s (dI a n)]=aZd T0 R0 aG fu a n (i64.wrap (8*(n:Int))):=by kernel_rfl
def Ou (v3:Int):St:={ tm:=[(3,.int .i64 v3)],hp:=[],nx:=0,sz:=19 }
theorem aPI {β:Type} (fu:Nat) (G:FG β) (H:FH β) (x0:List Int) (n0:Nat) (v3:Int):fI prog (aGX T0 R0 aG) fu aGY G H (YC x0 n0 v3)=bif decide (0 < v3) then (R0 [.s (dI x0 n0),.int .i64 (i64.wrap (v3 - 1))]).bind λ t=>bif decide (aG t=0) then G (some (YC x0 n0 (i64.wrap (v3 - 1)))) else H (Ex.exit 0) (some (Ou v3)) else H (Ex.exit 0) (some (Ou v3)):=by kernel_rfl
theorem YD (fu:Nat) (v3:Int):aGZ T0 R0 aG fu  (Ex.exit 0) (Ou v3)=some (AV.int .i64 v3):=by kernel_rfl
end
section
variable (T0:Type) (R0:FA T0) (aG:T0->List Int) (aM:T0->Nat) (T1:Type) (R1:FA T1) (aN:T1->Int) (T2:Type) (R2:FA T2) (bC:T2->Int) (T3:Type) (R3:FA T3) (bO:T3->List Int) (cI:T3->Nat)
def aG0:Cg:=⟨⟨dE [(53,⟨R0,λ t=>AV.s (dI (aG t) (aM t))⟩),(54,⟨R1,λ t=>AV.int .i64 (aN t)⟩),(44,⟨R2,λ t=>AV.int .i64 (bC t)⟩),(55,⟨R3,λ t=>AV.s (dI (bO t) (cI t))⟩)],[],dR⟩,[(4,[0,1,6,7,8],[6,7])]⟩
def Jl (x0:List Int) (n0:Nat) (x1:List Int) (n1:Nat) (x6:List Int) (n6:Nat) (x7:List Int) (n7:Nat) (v8:Int):St:={ tm:=[(0,.s (dI x0 n0)),(1,.s (dI x1 n1)),(6,.s (dI x6 n6)),(7,.s (dI x7 n7)),(8,.int .i64 v8)],hp:=[],nx:=0,sz:=42 }
def aG1:Code:=cM (bN [1,1,0,1,2] (bD Tryz.f26))
def aG2 (fu:Nat):=lP prog (aG0 T0 R0 aG aM T1 R1 aN T2 R2 bC T3 R3 bO cI) fu [1,1,0,1,2] (bD Tryz.f26) (fT prog Tryz.f26)
abbrev aZf (fu:Nat) (x0:List Int) (n0:Nat) (x1:List Int) (n1:Nat) (x6:List Int) (n6:Nat) (x7:List Int) (n7:Nat) (v8:Int):=eS prog (aG0 T0 R0 aG aM T1 R1 aN T2 R2 bC T3 R3 bO cI) fu aG1 (aG2 T0 R0 aG aM T1 R1 aN T2 R2 bC T3 R3 bO cI fu ) fu (some (Jl x0 n0 x1 n1 x6 n6 x7 n7 v8))
theorem aZg (fu:Nat) (a:List Int) (n:Nat) (b:List Int) (m:Nat):bB prog Tryz.f26 (aG0 T0 R0 aG aM T1 R1 aN T2 R2 bC T3 R3 bO cI) fu [.s (dI a n),.s (dI b m)]=aZf T0 R0 aG aM T1 R1 aN T2 R2 bC T3 R3 bO cI fu a n b m [] 0 [] 0 (i64.wrap (i64.wrap (8*(n:Int)) - 1)):=by kernel_rfl
def YE (x6:List Int) (n6:Nat) (x7:List Int) (n7:Nat):St:={ tm:=[(6,.s (dI x6 n6)),(7,.s (dI x7 n7))],hp:=[],nx:=0,sz:=42 }
theorem aPJ {β:Type} (fu:Nat) (G:FG β) (H:FH β) (x0:List Int) (n0:Nat) (x1:List Int) (n1:Nat) (x6:List Int) (n6:Nat) (x7:List Int) (n7:Nat) (v8:Int):fI prog (aG0 T0 R0 aG aM T1 R1 aN T2 R2 bC T3 R3 bO cI) fu aG1 G H (Jl x0 n0 x1 n1 x6 n6 x7 n7 v8)=bif decide (0 <= v8) then (R0 [.s (dI x7 n7),.s (dI x7 n7)]).bind λ t=>(R1 [.s (dI x0 n0),.int .i64 v8]).bind λ dH=>bif decide (aN dH=1) then (R0 [.s (dI (aG t) (aM t)),.s (dI [1] 1)]).bind λ t=>(R0 [.s (dI x6 n6),.s (dI x6 n6)]).bind λ eU=>(R2 [.s (dI (aG t) (aM t)),.s (dI x1 n1)]).bind λ gE=>bif decide (0 <= bC gE) then (R3 [.s (dI (aG t) (aM t)),.s (dI x1 n1)]).bind λ t=>(R0 [.s (dI (aG eU) (aM eU)),.s (dI [1] 1)]).bind λ gT=>G (some (Jl x0 n0 x1 n1 (aG gT) (aM gT) (bO t) (cI t) (i64.wrap (v8 - 1)))) else G (some (Jl x0 n0 x1 n1 (aG eU) (aM eU) (aG t) (aM t) (i64.wrap (v8 - 1)))) else (R0 [.s (dI x6 n6),.s (dI x6 n6)]).bind λ eU=>(R2 [.s (dI (aG t) (aM t)),.s (dI x1 n1)]).bind λ gE=>bif decide (0 <= bC gE) then (R3 [.s (dI (aG t) (aM t)),.s (dI x1 n1)]).bind λ t=>(R0 [.s (dI (aG eU) (aM eU)),.s (dI [1] 1)]).bind λ gT=>G (some (Jl x0 n0 x1 n1 (aG gT) (aM gT) (bO t) (cI t) (i64.wrap (v8 - 1)))) else G (some (Jl x0 n0 x1 n1 (aG eU) (aM eU) (aG t) (aM t) (i64.wrap (v8 - 1)))) else H (Ex.exit 0) (some (YE x6 n6 x7 n7)):=by kernel_rfl
theorem aMJ (fu:Nat) (x6:List Int) (n6:Nat) (x7:List Int) (n7:Nat):aG2 T0 R0 aG aM T1 R1 aN T2 R2 bC T3 R3 bO cI fu  (Ex.exit 0) (YE x6 n6 x7 n7)=some (AV.tup [.s (dI x6 n6),.s (dI x7 n7)]):=by kernel_rfl
end
section
variable (T0:Type) (R0:FA T0) (aG:T0->List Int) (aM:T0->Nat) (T1:Type) (R1:FA T1) (aN:T1->List Int) (bI:T1->Nat) (T2:Type) (R2:FA T2) (bC:T2->List Int) (bW:T2->Nat)
def aG3:Cg:=⟨⟨dE [(94,⟨R0,λ t=>AV.s (dI (aG t) (aM t))⟩),(42,⟨R1,λ t=>AV.s (dI (aN t) (bI t))⟩),(53,⟨R2,λ t=>AV.s (dI (bC t) (bW t))⟩)],[],dR⟩,[(6,[0,4,5],[2,3,4])]⟩
def YF (s0:Str) (x4:List Int) (n4:Nat) (v5:Int):St:={ tm:=[(0,.str s0),(4,.s (dI x4 n4)),(5,.int .i64 v5)],hp:=[],nx:=0,sz:=46 }
def aG4:Code:=cM (bN [1,1,1,0,1,2] (bD Tryz.f102))
def YG (fu:Nat):=lP prog (aG3 T0 R0 aG aM T1 R1 aN bI T2 R2 bC bW) fu [1,1,1,0,1,2] (bD Tryz.f102) (fT prog Tryz.f102)
abbrev aPK (fu:Nat) (s0:Str) (x4:List Int) (n4:Nat) (v5:Int):=eS prog (aG3 T0 R0 aG aM T1 R1 aN bI T2 R2 bC bW) fu aG4 (YG T0 R0 aG aM T1 R1 aN bI T2 R2 bC bW fu ) fu (some (YF s0 x4 n4 v5))
theorem aZh (fu:Nat) (s:Str):bB prog Tryz.f102 (aG3 T0 R0 aG aM T1 R1 aN bI T2 R2 bC bW) fu [.str s]=bif decide ((↑(List.length s):Int)=0) then some (AV.tup [.s (dI [] 0),.s (.pl (.bool false))]) else bif decide (1 < (↑(List.length s):Int)) then bif decide ((0:Int) <= 0 /\ 0 < (↑(List.length s):Int)) then bif decide ((↑(List.getD s (Int.toNat 0) (0:UInt8)).toNat:Int)=48) then some (AV.tup [.s (dI [] 0),.s (.pl (.bool false))]) else aPK T0 R0 aG aM T1 R1 aN bI T2 R2 bC bW fu s [] 0 0 else none else aPK T0 R0 aG aM T1 R1 aN bI T2 R2 bC bW fu s [] 0 0:=by kernel_rfl
def U0 (x2:List Int) (n2:Nat) (b3:Bool) (x4:List Int) (n4:Nat):St:={ tm:=[(2,.s (dI x2 n2)),(3,.bool b3),(4,.s (dI x4 n4))],hp:=[],nx:=0,sz:=46 }
def YH (x4:List Int) (n4:Nat):St:={ tm:=[(2,.s SV.junk),(3,.s SV.junk),(4,.s (dI x4 n4))],hp:=[],nx:=0,sz:=46 }
theorem aPL {β:Type} (fu:Nat) (G:FG β) (H:FH β) (s0:Str) (x4:List Int) (n4:Nat) (v5:Int):fI prog (aG3 T0 R0 aG aM T1 R1 aN bI T2 R2 bC bW) fu aG4 G H (YF s0 x4 n4 v5)=bif decide (v5 < (↑(List.length s0):Int)) then bif decide (0 <= v5 /\ v5 < (↑(List.length s0):Int)) then bif decide ((↑(List.getD s0 v5.toNat (0:UInt8)).toNat:Int) < 48) then H Ex.ret (some (U0 [] 0 false x4 n4)) else bif decide (0 <= v5 /\ v5 < (↑(List.length s0):Int)) then bif decide (57 < (↑(List.getD s0 v5.toNat (0:UInt8)).toNat:Int)) then H Ex.ret (some (U0 [] 0 false x4 n4)) else (R0 [.s (dI x4 n4),.s (dI [10] 1)]).bind λ t=>bif decide (0 <= v5 /\ v5 < (↑(List.length s0):Int)) then (R1 [.int .u64 (u64.wrap (u8.wrap ((↑(List.getD s0 v5.toNat (0:UInt8)).toNat:Int) - 48)))]).bind λ dH=>(R2 [.s (dI (aG t) (aM t)),.s (dI (aN dH) (bI dH))]).bind λ t=>G (some (YF s0 (bC t) (bW t) (i64.wrap (v5+1)))) else none else none else none else H (Ex.exit 0) (some (YH x4 n4)):=by kernel_rfl
theorem aG5 (fu:Nat) (x2:List Int) (n2:Nat) (b3:Bool) (x4:List Int) (n4:Nat):YG T0 R0 aG aM T1 R1 aN bI T2 R2 bC bW fu  Ex.ret (U0 x2 n2 b3 x4 n4)=some (AV.tup [.s (dI x2 n2),.s (.pl (.bool b3))]):=by kernel_rfl
theorem aMK (fu:Nat) (x4:List Int) (n4:Nat):YG T0 R0 aG aM T1 R1 aN bI T2 R2 bC bW fu  (Ex.exit 0) (YH x4 n4)=some (AV.tup [.s (dI x4 n4),.s (.pl (.bool true))]):=by kernel_rfl
end
theorem BJ (a b:Nat):Nat.ble a b=decide (a <= b):=by
 cases h:Nat.ble a b
 ·rw [aH λ hle=>by rw [iX hle] at h; cases h]
 ·rw [aE (cF h)]
theorem uN (a b:Nat):Nat.beq a b=decide (a=b):=by
 cases h:Nat.beq a b
 ·rw [aH λ e=>by subst e; simp at h]
 ·rw [aE (aS h)]
theorem o8 {a:List Int} {n:Nat} (h:K3 a n=true):∃ x,a=nb x /\ n=(nb x).length /\ n <= 1048576 /\ vB a=x:=by
 simp only [K3,aX,BJ,uN,bG] at h;obtain ⟨⟨⟨h1,h2⟩,h3⟩,h4⟩:=h;have e:=aXP h1 h2;exact ⟨vB a,e.symm,by rw [e]; exact h3,h4,rfl⟩
theorem nV {x:Nat} (h:(nb x).length <= 1048576):K3 (nb x) (nb x).length=true:=by
 simp only [K3,CW,Id,lB,jX,BJ,bG]; exact h
theorem Jm {T:Type} {F:Nat->T} {args:List AV} {t:T} (h:K4 F args=some t):∃ x,args=[eN x] /\ (nb x).length <= 1048576 /\ t=F x:=by
 unfold K4 at h;split at h
 ·rename_i a n;obtain ⟨h1,h2⟩:=aY h;obtain ⟨x,rfl,rfl,h3,h4⟩:=o8 h1;cases h2;exact ⟨x,rfl,h3,by rw [h4]⟩
 ·cases h
theorem nW {T:Type} {F:Nat->Nat->T} {C:Nat->Nat->Bool} {args:List AV} {t:T} (h:y4 F C args=some t):∃ x y,args=[eN x,eN y] /\ (nb x).length <= 1048576 /\ (nb y).length <= 1048576 /\ C x y=true /\ t=F x y:=by
 unfold y4 at h;split at h
 ·rename_i a n b m;obtain ⟨h1,h2⟩:=aY h;simp only [aX] at h1;obtain ⟨x,rfl,rfl,h3,h4⟩:=o8 h1.1.1;obtain ⟨y,rfl,rfl,h5,h6⟩:=o8 h1.1.2;cases h2;have hc:=h1.2;rw [h4,h6] at hc;exact ⟨x,y,rfl,h3,h5,hc,by rw [h4,h6]⟩
 ·cases h
theorem U3 {T:Type} (F:Nat->T) {x:Nat} (h:(nb x).length <= 1048576):K4 F [eN x]=some (F x):=by
 show cond (K3 (nb x) (nb x).length) (some (F (vB (nb x)))) none=_;rw [nV h,fY]; rfl
theorem yF {T:Type} (F:Nat->Nat->T) (C:Nat->Nat->Bool) {x y:Nat} (h:(nb x).length <= 1048576) (h2:(nb y).length <= 1048576) (hc:C x y=true):y4 F C [eN x,eN y]=some (F x y):=by
 show cond (K3 (nb x) (nb x).length && K3 (nb y) (nb y).length && C (vB (nb x)) (vB (nb y))) (some (F (vB (nb x)) (vB (nb y)))) none=_;rw [nV h,nV h2,fY,fY,hc]; rfl
theorem GV:∀ (l:List Int) (i:Nat),cA l <= i->i < l.length->l.getD i 0=0:=by
 intro l
 induction l with
 | nil=>intro i _ h; simp at h
 | cons x r ih=>
  intro i h hl;simp only [cA] at h;simp only [fF] at hl;cases ht:cA r with
  | zero=>
   rw [ht] at h;simp only [] at h;cases i with
   | zero=>
    by_cases hx:x=0
    ·simp [hx]
    ·simp [hx] at h
   | succ i=>rw [As]; exact ih i (by omega) (by omega)
  | succ n=>
   rw [ht] at h;simp only [] at h;cases i with
   | zero=>omega
   | succ i=>rw [As]; exact ih i (by omega) (by omega)
theorem yG:∀ (l:List Int) (k:Nat),cA l=k+1->l.getD k 0 ≠ 0:=by
 intro l
 induction l with
 | nil=>intro k h; simp [cA] at h
 | cons x r ih=>
  intro k h;simp only [cA] at h;cases ht:cA r with
  | zero=>
   rw [ht] at h;simp only [] at h;by_cases hx:x=0
   ·simp [hx] at h
   ·rw [aW hx] at h;have:k=0:=by omega
    subst this; simpa using hx
  | succ n=>
   rw [ht] at h;simp only [] at h;have:k=n+1:=by omega
   subst this;rw [As];exact ih n ht
theorem aML (xs:List Int) (hl:xs.length <= 1099511627776) (fu:Nat):∀ (d n k:Nat),k=cA xs+d->k <= xs.length->d < n ->
  eS prog Uy fu Xw (Rs fu) n (some (Rr xs xs.length (k:Int)))=some (.s (.dat (.ints .i64 (lH xs)) (cA xs) 1)):=by
 intro d;have j8:∀ n k:Nat,k=cA xs->0 < n->eS prog Uy fu Xw (Rs fu) n (some (Rr xs xs.length (k:Int)))=some (.s (.dat (.ints .i64 (lH xs)) (cA xs) 1)):=by
  intro n k hk hn;obtain ⟨n,rfl⟩:=aP (by omega:n ≠ 0);have ht:=oW xs;have last:Rs fu (Ex.exit 0) (HX xs xs.length (k:Int))=some (.s (.dat (.ints .i64 (lH xs)) (cA xs) 1)):=by
   rw [aMB,aE (by omega),aB,Int.sub_zero,bE,iY,kU,hk]; rfl
  rw [aF,aPC];by_cases h0:k=0
  ·rw [aH (by omega),aD,aR,last]
  ·obtain ⟨q,rfl⟩:=aP h0;have hne:=yG xs q hk.symm;rw [aE (by omega),aB,bY (by omega) (by omega),aE (by omega),aB,show ((q.succ:Nat):Int) - 1=(q:Int) by omega,bE,aH hne,aD,aR,last]
 induction d with
 | zero=>intro n k hk _ hn; exact j8 n k (by omega) hn
 | succ d ih=>
  intro n k hk hkl hn;obtain ⟨n,rfl⟩:=aP (by omega:n ≠ 0);have hz:=GV xs (k - 1) (by omega) (by omega);rw [aF,aPC,aE (by omega),aB,bY (by omega) (by omega),aE (by omega),aB,show (k:Int) - 1=((k - 1:Nat):Int) by omega,bE,aE hz,aB];exact ih n (k - 1) (by omega) (by omega) (by omega)
theorem YI {xs:List Int} (h:jE xs=true):AV.s (.dat (.ints .i64 (lH xs)) (cA xs) 1)=eN (vB xs):=by
 simp only [eN];rw [V7 h,rT]
theorem HZ:CallOk prog 57 aC7:=by
 refine lA (g:=Uy) (fu:=λ args=>match args with | [.c (.s (.dat (.ints .i64 a) n 1))]=>n+1 | _=>0) gH ⟨aK,λ _ _ h=>by cases h⟩ Tryz.func57 (by kernel_rfl) ?_;intro args t ht;unfold aC7 at ht;simp only at ht;split at ht
 ·rename_i a n;obtain ⟨h1,h2⟩:=aY ht;simp only [aX,BJ,uN,bG] at h1;obtain ⟨⟨h3,rfl⟩,h4⟩:=h1;cases h2;have:=oW a;refine (aYU _ _ _).trans ((aML a (by omega) _ (a.length - cA a) _ a.length (by omega) (by omega) (by show a.length - cA a < a.length+1; omega)).trans ?_);rw [YI h3]; rfl
 ·cases ht
theorem aG6 (xs:List Int) (hl:xs.length <= 1099511627776) (fu:Nat) (ty m:Nat):∀ (d n k:Nat),k=cA xs+d->k <= xs.length->d < n ->
  eS prog Ji fu Om (Jk fu xs.length) n (some (Jj xs.length (k:Int) xs.length ty m xs))=some (.s (.sub 0 0 (cA xs) 1),.ints .i64 xs):=by
 intro d;have j8:∀ n k:Nat,k=cA xs->0 < n->eS prog Ji fu Om (Jk fu xs.length) n (some (Jj xs.length (k:Int) xs.length ty m xs))=some (.s (.sub 0 0 (cA xs) 1),.ints .i64 xs):=by
  intro n k hk hn;obtain ⟨n,rfl⟩:=aP (by omega:n ≠ 0);have ht:=oW xs;have last:Jk fu xs.length (Ex.exit 0) (EJ xs.length (k:Int) xs.length ty m xs)=some (.s (.sub 0 0 (cA xs) 1),.ints .i64 xs):=by
   rw [aGK,aE (by omega),aB,Int.sub_zero,bE,lB,hk]; rfl
  rw [aF,aGJ];by_cases h0:k=0
  ·rw [aH (by omega),aD,aR,last]
  ·obtain ⟨q,rfl⟩:=aP h0;have hne:=yG xs q hk.symm;rw [aE (by omega),aB,bY (by omega) (by omega),aE (by omega),aB,show ((q.succ:Nat):Int) - 1=(q:Int) by omega,bE,aH hne,aD,aR,last]
 induction d with
 | zero=>intro n k hk _ hn; exact j8 n k (by omega) hn
 | succ d ih=>
  intro n k hk hkl hn;obtain ⟨n,rfl⟩:=aP (by omega:n ≠ 0);have hz:=GV xs (k - 1) (by omega) (by omega);rw [aF,aGJ,aE (by omega),aB,bY (by omega) (by omega),aE (by omega),aB,show (k:Int) - 1=((k - 1:Nat):Int) by omega,bE,aE hz,aB];exact ih n (k - 1) (by omega) (by omega) (by omega)
theorem EK:yX prog 57 (EZ E5):=by
 refine aHx (g:=Ji) (fu:=λ _ n=>n+1) gH ⟨aK,λ _ _ h=>by cases h⟩ Tryz.func57 (by kernel_rfl) ?_;intro ty r len esz rest av r' hl hE;unfold E5 at hE;split at hE
 ·rename_i xs;simp only [lF,uX,bG] at hE;obtain ⟨hn,rfl,rfl⟩:=hE;have hl:xs.length=len:=by simpa [TRow.length] using hl
  subst hl;have:=oW xs;exact (aVX _ _ _ _).trans (aG6 xs hn _ ty _ (xs.length - cA xs) _ xs.length (by omega) (by omega) (by omega))
 ·cases hE
theorem BK (xs:List Int) (h:jE xs=true):AV.s (SV.dat (TRow.ints i64 (List.take (cA xs*1) (List.drop 0 xs))) (cA xs) 1)=eN (vB xs):=by
 rw [iY,kU]; exact YI h
abbrev aPM:Cg:=aGL (Nat) wB (λ t=>nb t) (λ t=>(nb t).length)
theorem aVY:CfOk prog aPM.c:=⟨aA HZ <| aK,wX EK <| BP⟩
theorem Ha (s:Str):jE (s.map lO)=true:=by
 induction s with
 | nil=>rfl
 | cons c r ih=>
  have:=c.toNat_lt;simp only [mQ,jE,ih,Fo,lO,bG]; omega
theorem aAH {α:Type} (l:List α) (i:Nat) (d:α) (h:i < l.length):l.drop i=l.getD i d :: l.drop (i+1):=by
 rw [Cx h];simp [List.getD,h]
theorem Ae {α:Type} (l:List α) (i:Nat) (d:α) (h:i < l.length):l.take (i+1)=l.take i++[l.getD i d]:=by
 rw [List.take_succ_eq_append_getElem h];simp [List.getD,h]
theorem aMM (s:Str) (hl:s.length <= 1048576) (fu:Nat):∀ (d n i m:Nat),i+d=s.length->d < n ->
  eS prog aPM fu aGM (aGN _ wB (λ t=>nb t) (λ t=>(nb t).length) fu) n (some (Xx s i (i:Int) m ((s.take i).map lO)))=some (eN (vS s)):=by
 intro d
 induction d with
 | zero=>
  intro n i m hi hn;obtain ⟨n,rfl⟩:=aP (by omega:n ≠ 0);have e:i=s.length:=by omega
  subst e;rw [aF,aPD,aH (by omega),aD,aR,aMC,aE (by omega),aB,Ec,BK _ (Ha s)]; rfl
 | succ d ih=>
  intro n i m hi hn;obtain ⟨n,rfl⟩:=aP (by omega:n ≠ 0);have hb:=(s.getD i 0).toNat_lt;rw [aF,aPD,aE (by omega),aB,aE (by omega),aB,aE (by omega),aB,bE,bY (by omega) (by omega),bY (by omega) (by omega)];have:=ih n (i+1) ((i+1)*1) (by omega) (by omega);rw [Ae s i 0 (by omega),vG] at this;exact this
theorem Rv:CallOk prog 28 Mu:=by
 refine aZ (fu:=λ args=>match args with | [.c (.s (.pl (.str s)))]=>s.length+1 | _=>0) aVY Tryz.func28 ?_;intro args t ht;unfold Mu at ht;simp only at ht;split at ht
 ·rename_i s;obtain ⟨h1,h2⟩:=aY ht;have h1:=jN h1;cases h2;exact (aYW _ _ _ _ _ _).trans (aMM s h1 _ s.length _ 0 0 (by omega) (lD _))
 ·cases ht
theorem Ln {s:Str} (h:s.length <= 1048576):z7 [.str s]=some (vS s):=by
 simp only [z7,Mu,h,oF,aB]
theorem aMN (fu:Nat):∀ (d n v m:Nat) (xs:List Int),v < 256 ^ d->v < 18446744073709551616->d < n->xs.length+d <= 1000000 ->
  eS prog aAE fu aGO (aGP fu) n (some (Xz (v:Int) xs.length m xs))=some (.s (.dat (.ints .i64 (xs++ZW d v)) (xs.length+(ZW d v).length) 1)):=by
 intro d
 induction d with
 | zero=>
  intro n v m xs hv h64 hn hl;obtain ⟨n,rfl⟩:=aP (by omega:n ≠ 0);have:v=0:=by simpa using hv
  subst this;rw [aF,aPE,aH (by omega),aD,aR,X1];simp [ZW]
 | succ d ih=>
  intro n v m xs hv h64 hn hl;obtain ⟨n,rfl⟩:=aP (by omega:n ≠ 0);rw [aF,aPE];by_cases h0:v=0
  ·subst h0;rw [aH (by omega),aD,aR,X1];simp [ZW]
  ·rw [aE (by omega),aB,aE (by omega),aB];rw [show ((v:Nat):Int).tdiv 256=((v / 256:Nat):Int) by rw [rF (by omega)]; omega,show ((v:Nat):Int).tmod 256=((v%256:Nat):Int) by rw [lM (by omega)]; omega];rw [Tp (by omega) (by omega),bY (by omega) (by omega)];have:=ih n (v / 256) ((xs.length+1)*1) (xs++[((v%256:Nat):Int)]) (by rw [bM] at hv; omega) (by omega) (by omega) (by simp; omega);rw [show (xs++[((v%256:Nat):Int)]).length=xs.length+1 by simp] at this;refine this.trans ?_;simp only [ZW,h0,mB,lN,Hk,fF];rw [show xs.length+1+(ZW d (v / 256)).length=xs.length+((ZW d (v / 256)).length+1) by omega]
theorem aVZ {d v:Nat} (h:v < 256 ^ d):ZW d v=nb v:=by
 have:=aC5 (lo d v) d (sW d v) (by rw [GC]; exact bK _ (gS (by decide)));rw [GC,aV h] at this;rw [this,V8 h]
theorem GW:CallOk prog 42 A3:=by
 refine lA (g:=aAE) (fu:=λ _=>9) gH ⟨aK,λ _ _ h=>by cases h⟩ Tryz.func42 (by kernel_rfl) ?_;intro args t ht;unfold A3 at ht;simp only at ht;split at ht
 ·rename_i v;obtain ⟨h1,h2⟩:=aY ht;cases h2;simp only [hO,bG] at h1;obtain ⟨k,rfl⟩:=b9 h1.1;have hk:k < 256 ^ 8:=by omega
  refine (aYY _ _).trans ((aMN 9 8 9 k 0 [] hk (by omega) (by decide) (by decide)).trans ?_);rw [aVZ hk,bE];simp only [rI,PJ,bS]; rfl
 ·cases ht
theorem yH {k:Nat} (h:k < 18446744073709551616):wC [.int .u64 (k:Int)]=some k:=by
 have:hO (k:Int)=true:=by simp [hO]; omega
 simp only [wC,A3,this,aB,bE]
theorem aMO (x y:Nat) (h:(nb x).length=(nb y).length) (hl:(nb x).length <= 1048576) (fu:Nat):∀ (k n:Nat),k <= (nb x).length->k < n ->
  eS prog aAF fu aGQ (X3 fu) n (some (X2 (nb x) (nb x).length (nb y) (nb y).length ((k:Int) - 1)))=some (.int .i64 (qO (x%256 ^ k) (y%256 ^ k))):=by
 intro k
 induction k with
 | zero=>
  intro n _ hn;obtain ⟨n,rfl⟩:=aP (by omega:n ≠ 0);rw [aF,aPF,aH (by omega),aD,aR,aMD];simp [qO,uV]
 | succ k ih=>
  intro n hk hn;obtain ⟨n,rfl⟩:=aP (by omega:n ≠ 0);rw [show (((k+1:Nat):Int) - 1)=(k:Int) by omega];rw [aF,aPF,aE (by omega),aB,aE (by omega),aB,aE (by omega),aB,aB,aB,bE,Ac x k (by omega),Ac y k (by omega),aAA];by_cases h1:dg x k < dg y k
  ·rw [aE (by omega:((dg x k:Nat):Int) < (dg y k:Nat)),aB,aR,aGR,aE h1]; rfl
  ·rw [aH (by omega:¬ ((dg x k:Nat):Int) < (dg y k:Nat)),aD,aH h1,aD];by_cases h2:dg y k < dg x k
   ·rw [aE (by omega:((dg y k:Nat):Int) < (dg x k:Nat)),aB,aR,aGR,aE h2]; rfl
   ·rw [aH (by omega:¬ ((dg y k:Nat):Int) < (dg x k:Nat)),aD,aH h2,aD,bY (by omega) (by omega)];exact ih n (by omega) (by omega)
theorem BL:CallOk prog 44 V9:=by
 refine lA (g:=aAF) (fu:=λ args=>match args with | [.c (.s (.dat _ n _)),_]=>n+1 | _=>0) gH ⟨aK,λ _ _ h=>by cases h⟩ Tryz.func44 (by kernel_rfl) ?_;intro args t ht;obtain ⟨x,y,rfl,hx,hy,_,rfl⟩:=nW (F:=qO) (C:=λ _ _=>true) ht;refine (aY0 _ _ _ _ _).trans ?_;show _=some (AV.int .i64 (qO x y));by_cases h:(nb x).length=(nb y).length
 ·rw [aE (by omega),jW,aD,bY (by omega) (by omega)];refine (aMO x y h hx _ (nb x).length _ (bV _) (lD _)).trans ?_;rw [aV (rJ x),h,aV (rJ y)]
 ·rw [aH (by omega),lL,aB];by_cases h2:(nb x).length < (nb y).length
  ·have:=Xv h2;rw [aE (by omega),aB]; simp [qO,this]
  ·have:=Xv (x:=y) (y:=x) (by omega);have h3:¬ x < y:=by omega
   rw [aH (by omega),aD]; simp [qO,this,h3]
theorem mM {x y:Nat} (h:(nb x).length <= 1048576) (h2:(nb y).length <= 1048576):nE [eN x,eN y]=some (qO x y):=yF qO (λ _ _=>true) h h2 rfl
abbrev aG7:Cg:=aGS (Nat) wB (λ t=>nb t) (λ t=>(nb t).length)
theorem aV0:CfOk prog aG7.c:=⟨aA HZ <| aK,wX EK <| BP⟩
def EL (x y i c:Nat):Nat:=c+dg x i+dg y i
theorem aPN {x:Nat} {lx:List Int} (dx:∀ i,lx.length <= i->x / 256 ^ i=0) (i:Nat) (h:lx.length <= i):dg x i=0:=by rw [dg,dx i h]
theorem YJ {lx:List Int} {β:Type} (x y i c m:Nat) (gx:∀ i,i < lx.length->lx.getD i 0=((dg x i:Nat):Int)) (dx:∀ i,lx.length <= i->x / 256 ^ i=0) (hx:lx.length <= 1048576) (hy:(nb y).length <= 1048576) (hc:c <= 1) (hi:i <= 4194304) (xs:List Int) (fu:Nat) (G:FG β) (H:FH β) :
  fI prog aG7 fu X5 G H (wS lx lx.length (nb y) (nb y).length i (c:Int) (i:Int) m xs) =
   if i < lx.length ∨ i < (nb y).length ∨ 0 < c then G (some (wS lx lx.length (nb y) (nb y).length (i+1) ((EL x y i c / 256:Nat):Int) ((i+1:Nat):Int) ((i+1)*1) (xs++[((EL x y i c%256:Nat):Int)])))
   else H (.exit 0) (some (HY i m xs)):=by
 have hdx:=uM x i;have hdy:=uM y i;have q:∀ s:Nat,s < 1000->i64.wrap (((s:Nat):Int).tdiv 256)=((s / 256:Nat):Int):=λ s hs=>by
  rw [rF (by omega),bY (by omega) (by omega)]; omega
 have r:∀ s:Nat,((s:Nat):Int).tmod 256=((s%256:Nat):Int):=λ s=>by
  rw [lM (by omega)]; omega
 have wi:i64.wrap ((i:Int)+1)=((i+1:Nat):Int):=by rw [bY (by omega) (by omega)]; omega
 rw [aY3];by_cases h1:i < lx.length
 ·rw [aT (.inl h1),aE (by omega:(i:Int) < (lx.length:Int)),aB,aB,aE (by omega),aB,bE,gx i h1];have e1:i64.wrap ((c:Int)+(dg x i:Nat))=((c+dg x i:Nat):Int):=by rw [bY (by omega) (by omega)]; omega
  rw [e1];by_cases h2:i < (nb y).length
  ·have e2:i64.wrap (((c+dg x i:Nat):Int)+(dg y i:Nat))=((EL x y i c:Nat):Int):=by rw [bY (by omega) (by omega)]; simp only [EL]; omega
   rw [aE (by omega:(i:Int) < ((nb y).length:Int)),aB,aE (by omega),aB,aE (by omega),aB,Ac y i h2,e2,q _ (by simp only [EL]; omega),r,wi]
  ·have e2:EL x y i c=c+dg x i:=by rw [EL,BI y i (by omega)]; omega
   rw [aH (by omega:¬ (i:Int) < ((nb y).length:Int)),aD,aE (by omega),aB,e2,q _ (by omega),r,wi]
 ·rw [aH (by omega:¬ (i:Int) < (lx.length:Int)),aD,aD];have hx0:=aPN dx i (by omega);by_cases h2:i < (nb y).length
  ·have e2:i64.wrap ((c:Int)+(dg y i:Nat))=((EL x y i c:Nat):Int):=by rw [bY (by omega) (by omega)]; simp only [EL,hx0]; omega
   rw [aT (.inr (.inl h2)),aE (by omega:(i:Int) < ((nb y).length:Int)),Fp,aB,aB,aE (by omega),aB,aE (by omega),aB,bE,Ac y i h2,e2,q _ (by simp only [EL]; omega),r,wi]
  ·have hy0:=BI y i (by omega);have e2:EL x y i c=c:=by simp only [EL,hx0,hy0]; omega
   rw [aH (by omega:¬ (i:Int) < ((nb y).length:Int)),Cu];by_cases h3:0 < c
   ·rw [aT (.inr (.inr h3)),aE (by omega),aB,aD,aE (by omega),aB,e2,q _ (by omega),r,wi]
   ·rw [aW (by omega),aH (by omega),aD]
theorem aMP {lx:List Int} (x y:Nat) (gx:∀ i,i < lx.length->lx.getD i 0=((dg x i:Nat):Int)) (dx:∀ i,lx.length <= i->x / 256 ^ i=0) (hx:lx.length <= 1048576) (hy:(nb y).length <= 1048576) (fu:Nat):∀ (d n i c m:Nat) (xs:List Int),i+d=max lx.length (nb y).length+1->d < n->c <= 1->(max lx.length (nb y).length < i->c=0)->jE xs=true->xs.length=i->vB xs+256 ^ i*(c+x / 256 ^ i+y / 256 ^ i)=x+y ->
  eS prog aG7 fu X5 (X6 _ wB (λ t=>nb t) (λ t=>(nb t).length) fu) n (some (wS lx lx.length (nb y) (nb y).length i (c:Int) (i:Int) m xs))=some (eN (x+y)):=by
 intro d;have last:∀ (i c m:Nat) (xs:List Int),lx.length <= i->(nb y).length <= i->i <= 4194304->c=0->jE xs=true->xs.length=i->vB xs+256 ^ i*(c+x / 256 ^ i+y / 256 ^ i)=x+y->X6 _ wB (λ t=>nb t) (λ t=>(nb t).length) fu (.exit 0) (HY i m xs)=some (eN (x+y)):=by
  intro i c m xs h1 h2 h3 h4 hk hl he;subst h4;rw [aME,aE (by omega),aB,BK xs hk];rw [dx i h1,EI y i h2] at he;simp only [fH,sM] at he;rw [he]
 induction d with
 | zero=>
  intro n i c m xs hi hn hc h0 hk hl he;obtain ⟨n,rfl⟩:=aP (by omega:n ≠ 0);have hc0:=h0 (by omega);rw [aF,YJ x y i c m gx dx hx hy hc (by omega),aW (by omega),aR];exact last i c m xs (by omega) (by omega) (by omega) hc0 hk hl he
 | succ d ih=>
  intro n i c m xs hi hn hc h0 hk hl he;obtain ⟨n,rfl⟩:=aP (by omega:n ≠ 0);rw [aF,YJ x y i c m gx dx hx hy hc (by omega)];by_cases hs:i < lx.length ∨ i < (nb y).length ∨ 0 < c
  ·rw [aT hs];have hdx:=uM x i;have hdy:=uM y i;refine ih n (i+1) _ _ _ (by omega) (by omega) (by simp only [EL]; omega) ?_ (Rp hk (bK _ (by decide))) (by simp [hl]) ?_
   ·intro hgt;have a1:=aPN dx i (by omega);have a2:=BI y i (by omega);simp only [EL,a1,a2]; omega
   ·rw [Oj,hl,Ad,Ad,bM];exact aAB _ _ _ _ _ _ he
  ·rw [aW hs,aR];exact last i c m xs (by omega) (by omega) (by omega) (by omega) hk hl he
theorem aZi {a:List Int} (h:jE a=true):∀ i,i < a.length->a.getD i 0=((dg (vB a) i:Nat):Int):=λ i hi=>by
 have:=A2 a.length (vB a) i hi;rwa [Ic a h] at this
theorem aZj {a:List Int} (h:jE a=true):∀ i,a.length <= i->vB a / 256 ^ i=0:=λ i hi=>
 jJ (cU (GD a h) (iK (by decide) hi))
theorem sS:CallOk prog 53 DP:=by
 refine aZ (fu:=λ args=>match args with | [.c (.s (.dat _ n _)),.c (.s (.dat _ m _))]=>max n m+2 | _=>0) aV0 Tryz.func53 ?_;intro args t ht;unfold DP WA at ht;simp only at ht;split at ht
 ·rename_i a n b m;cases hc:(jE a && Nat.beq n a.length && Nat.ble n 1048576 && K3 b m) with
  | false=>rw [hc] at ht; cases ht
  | true=>
  rw [hc] at ht;cases ht;simp only [aX] at hc;obtain ⟨⟨⟨h1,h2⟩,h3⟩,h4⟩:=hc;have h2:=aS h2;have h3:=cF h3;subst h2;obtain ⟨y,rfl,rfl,hy,ey⟩:=o8 h4;rw [ey];refine (aY2 _ _ _ _ _ _ _ _ _).trans ?_;exact aMP (lx:=a) (vB a) y (aZi h1) (aZj h1) h3 hy _ (max a.length (nb y).length+1) _ 0 0 0 [] (by omega) (lD _) (by omega) (by omega) rfl rfl (by simp [vB])
 ·cases ht
theorem iQ {x y:Nat} (h:(nb x).length <= 1048576) (h2:(nb y).length <= 1048576):jF [eN x,eN y]=some (x+y):=by
 simp only [jF,DP,WA,eN];rw [CW,lB,iX h,nV h2,fY,fY]; rfl
theorem Rw {a:List Int} {y:Nat} (hb:jE a=true) (h:a.length <= 1048576) (h2:(nb y).length <= 1048576):jF [.s (.dat (.ints .i64 a) a.length 1),eN y]=some (vB a+y):=by
 simp only [jF,DP,WA,eN];rw [hb,lB,iX h,nV h2,fY]; rfl
abbrev aG8:Cg:=aGT (Nat) wB (λ t=>nb t) (λ t=>(nb t).length)
theorem aV1:CfOk prog aG8.c:=⟨aA HZ <| aK,wX EK <| BP⟩
def Kc (x y i c:Nat):Int:=(dg x i:Int) - c - dg y i
def FY (x y i c:Nat):Nat:=if Kc x y i c < 0 then 1 else 0
def Ke (x y i c:Nat):Nat:=(Kc x y i c+256*FY x y i c).toNat
theorem Lo (x y i c:Nat) (hc:c <= 1):Ke x y i c < 256 /\ FY x y i c <= 1 /\ Ke x y i c+c+dg y i=dg x i+256*FY x y i c:=by
 have hdx:=uM x i;have hdy:=uM y i;by_cases h:Kc x y i c < 0
 ·have e:FY x y i c=1:=by rw [FY,aT h]
  rw [Ke,e]; simp only [Kc] at *; omega
 ·have e:FY x y i c=0:=by rw [FY,aW h]
  rw [Ke,e]; simp only [Kc] at *; omega
theorem YK {β:Type} (x y i c m:Nat) (hx:(nb x).length <= 1048576) (hy:(nb y).length <= 1048576) (hc:c <= 1) (hi:i <= 4194304) (xs:List Int) (fu:Nat) (G:FG β) (H:FH β) :
  fI prog aG8 fu X7 G H (zB (nb x) (nb x).length (nb y) (nb y).length i (c:Int) (i:Int) m xs) =
   if i < (nb x).length then G (some (zB (nb x) (nb x).length (nb y) (nb y).length (i+1) ((FY x y i c:Nat):Int) ((i+1:Nat):Int) ((i+1)*1) (xs++[((Ke x y i c:Nat):Int)])))
   else H (.exit 0) (some (Oo i m xs)):=by
 have hdx:=uM x i;have hdy:=uM y i;obtain ⟨f1,f2,f3⟩:=Lo x y i c hc;have wi:i64.wrap ((i:Int)+1)=((i+1:Nat):Int):=by rw [bY (by omega) (by omega)]; omega
 rw [aY6];by_cases h1:i < (nb x).length
 ·rw [aT h1,aE (by omega:(i:Int) < ((nb x).length:Int)),aB,aE (by omega),aB,bE,Ac x i h1,bY (n:=((dg x i:Nat):Int) - (c:Int)) (by omega) (by omega)];have j8:∀ s:Int,s=Kc x y i c->(cond (decide (s < 0)) (cond (decide (i+1 <= 1099511627776)) (G (some (zB (nb x) (nb x).length (nb y) (nb y).length (i+1) (1:Int) (i64.wrap ((i:Int)+1)) ((i+1)*1) (xs++[i64.wrap (s+256)])))) none)
    (cond (decide (i+1 <= 1099511627776)) (G (some (zB (nb x) (nb x).length (nb y) (nb y).length (i+1) (0:Int) (i64.wrap ((i:Int)+1)) ((i+1)*1) (xs++[s])))) none)) =
    G (some (zB (nb x) (nb x).length (nb y) (nb y).length (i+1) ((FY x y i c:Nat):Int) ((i+1:Nat):Int) ((i+1)*1) (xs++[((Ke x y i c:Nat):Int)]))):=by
   intro s hs;rw [wi];by_cases hneg:s < 0
   ·have e1:FY x y i c=1:=by simp only [FY]; rw [aT (by omega)]
    have e2:i64.wrap (s+256)=((Ke x y i c:Nat):Int):=by
     rw [bY (by simp only [Kc] at hs; omega) (by omega),Ke,e1]; simp only [Kc] at *; omega
    rw [aE hneg,aB,aE (by omega),aB,e1,e2]; rfl
   ·have e1:FY x y i c=0:=by simp only [FY]; rw [aW (by omega)]
    have e2:s=((Ke x y i c:Nat):Int):=by rw [Ke,e1]; simp only [Kc] at *; omega
    rw [aH hneg,aD,aE (by omega),aB,e1,<-e2]; rfl
  by_cases h2:i < (nb y).length
  ·rw [aE (by omega:(i:Int) < ((nb y).length:Int)),aB,aE (by omega),aB,Ac y i h2,bY (n:=((dg x i:Nat):Int) - (c:Int) - (dg y i:Nat)) (by omega) (by omega)];exact j8 _ rfl
  ·have hy0:=BI y i (by omega);rw [aH (by omega:¬ (i:Int) < ((nb y).length:Int)),aD];exact j8 _ (by simp only [Kc,hy0]; omega)
 ·rw [aW h1,aH (by omega),aD]
theorem aMQ (x y:Nat) (hle:y <= x) (hx:(nb x).length <= 1048576) (hy:(nb y).length <= 1048576) (fu:Nat):∀ (d n i c m:Nat) (xs:List Int),i+d=(nb x).length->d < n->c <= 1->jE xs=true->xs.length=i->vB xs+y+256 ^ i*(x / 256 ^ i)=x+256 ^ i*(y / 256 ^ i+c) ->
  eS prog aG8 fu X7 (aGU _ wB (λ t=>nb t) (λ t=>(nb t).length) fu) n (some (zB (nb x) (nb x).length (nb y) (nb y).length i (c:Int) (i:Int) m xs))=some (eN (x - y)):=by
 intro d
 induction d with
 | zero=>
  intro n i c m xs hi hn hc hk hl he;obtain ⟨n,rfl⟩:=aP (by omega:n ≠ 0);rw [aF,YK x y i c m hx hy hc (by omega),aW (by omega),aR,aMF,aE (by omega),aB,BK xs hk];have hxl:=rJ x;have hlt:=GD xs hk;rw [hl] at hlt;have e1:x / 256 ^ i=0:=EI x i (by omega);have e2:y / 256 ^ i=0:=jJ (iI hle (by rw [show i=(nb x).length by omega]; exact hxl));rw [e1,e2] at he;have hc0:c=0:=by
   rcases pS c 1 with h | h
   ·omega
   ·have:c=1:=by omega
    subst this;simp only [sM,fH,bS,iY] at he;have hx2:x < 256 ^ i:=by rw [show i=(nb x).length by omega]; exact hxl
    omega
  subst hc0;simp only [sM,fH] at he;rw [show x - y=vB xs by omega]
 | succ d ih=>
  intro n i c m xs hi hn hc hk hl he;obtain ⟨n,rfl⟩:=aP (by omega:n ≠ 0);obtain ⟨f1,f2,f3⟩:=Lo x y i c hc;rw [aF,YK x y i c m hx hy hc (by omega),aT (by omega)];refine ih n (i+1) _ _ _ (by omega) (by omega) f2 (Rp hk f1) (by simp [hl]) ?_;rw [Oj,hl,Ad,Ad,bM];exact aAC _ _ _ _ _ _ _ _ _ he f3
theorem wT:CallOk prog 55 WB:=by
 refine aZ (fu:=λ args=>match args with | [.c (.s (.dat _ n _)),_]=>n+1 | _=>0) aV1 Tryz.func55 ?_;intro args t ht;obtain ⟨x,y,rfl,hx,hy,hc,rfl⟩:=nW (F:=λ a b=>a - b) (C:=λ a b=>Nat.ble b a) ht;refine (aY5 _ _ _ _ _ _ _ _ _).trans ?_;exact aMQ x y (cF hc) hx hy _ (nb x).length _ 0 0 0 [] (by omega) (lD _) (by omega) rfl rfl (by simp [vB]; omega)
theorem o9 {x y:Nat} (h:(nb x).length <= 1048576) (h2:(nb y).length <= 1048576) (hle:y <= x):pF [eN x,eN y]=some (x - y):=yF (λ a b=>a - b) (λ a b=>Nat.ble b a) h h2 (iX hle)
abbrev Lp:Cg:=Oq (Nat) wB (λ t=>nb t) (λ t=>(nb t).length)
theorem aV2:CfOk prog Lp.c:=⟨aA HZ <| aK,wX EK <| BP⟩
def Kf (o:List Int) (x y i j c:Nat):Nat:=(o.getD (i+j) 0).toNat+c+dg x i*dg y j
theorem YL {β:Type} (x y i j c m L:Nat) (hx:(nb x).length <= 1048576) (hy:(nb y).length <= 1048576) (hi:i < (nb x).length) (hc:c <= 255) (hj:j <= 1048577) (o:List Int) (hk:jE o=true) (hL:L=o.length) (hb:j < (nb y).length ∨ 0 < c->i+j < L) (fu:Nat) (G:FG β) (H:FH β) :
  fI prog Lp fu Ru G H (GU (nb x) (nb x).length (nb y) (nb y).length L (i:Int) (c:Int) (j:Int) m o) =
   if j < (nb y).length ∨ 0 < c then G (some (GU (nb x) (nb x).length (nb y) (nb y).length L (i:Int) ((Kf o x y i j c / 256:Nat):Int) ((j+1:Nat):Int) m (o.set (i+j) ((Kf o x y i j c%256:Nat):Int))))
   else H (.exit 2) (some (Ot (nb x) (nb x).length (nb y) (nb y).length L (i:Int) m o)):=by
 have hdx:=uM x i;have hdy:=uM y j;have ho:=Jh hk (i+j);have hmul:dg x i*dg y j <= 255*255:=iJ (by omega) (by omega);have q:∀ s:Nat,s < 1000000->i64.wrap (((s:Nat):Int).tdiv 256)=((s / 256:Nat):Int):=λ s hs=>by
  rw [rF (by omega),bY (by omega) (by omega)]; omega
 have r:∀ s:Nat,((s:Nat):Int).tmod 256=((s%256:Nat):Int):=λ s=>by
  rw [lM (by omega)]; omega
 have wj:i64.wrap ((j:Int)+1)=((j+1:Nat):Int):=by rw [bY (by omega) (by omega)]; omega
 have wij:i64.wrap ((i:Int)+(j:Int))=((i+j:Nat):Int):=by rw [bY (by omega) (by omega)]; omega
 have eo:o.getD (i+j) 0=(((o.getD (i+j) 0).toNat:Nat):Int):=by omega
 have e1:i64.wrap (o.getD (i+j) 0+(c:Int))=(((o.getD (i+j) 0).toNat+c:Nat):Int):=by rw [bY (by omega) (by omega)]; omega
 rw [aZa,wij,bE,e1];by_cases h1:j < (nb y).length
 ·have hij:=hb (.inl h1);have e2:i64.wrap (((dg x i:Nat):Int)*((dg y j:Nat):Int))=((dg x i*dg y j:Nat):Int):=by
   rw [<-oA,bY (by omega) (by omega)]
  have e3:i64.wrap ((((o.getD (i+j) 0).toNat+c:Nat):Int)+((dg x i*dg y j:Nat):Int))=((Kf o x y i j c:Nat):Int):=by
   rw [<-fZ,bY (by omega) (by omega)]; rfl
  rw [aT (.inl h1),aE (by omega:(j:Int) < ((nb y).length:Int)),Fp,aB,aE (by omega),aB,aB,aE (by omega),aB,aE (by omega),aB,aB,bE,bE,Ac x i hi,Ac y j h1,e2,e3,q _ (by simp only [Kf]; omega),r,wj]
 ·have hy0:=BI y j (by omega);have e3:Kf o x y i j c=(o.getD (i+j) 0).toNat+c:=by simp only [Kf,hy0]; omega
  rw [aH (by omega:¬ (j:Int) < ((nb y).length:Int)),Cu];by_cases h2:0 < c
  ·have hij:=hb (.inr h2);rw [aT (.inr h2),aE (by omega),aB,aE (by omega),aB,aD,aB,e3,q _ (by omega),r,wj]
  ·rw [aW (by omega),aH (by omega),aD]
theorem aG9 {β:Type} (x y i L T:Nat) (hx:(nb x).length <= 1048576) (hy:(nb y).length <= 1048576) (hi:i < (nb x).length) (hL:L=(nb x).length+(nb y).length+1) (hT:T < 256 ^ (i+1+(nb y).length)) (fu m:Nat) (G:FG β) (H:FH β) :
  ∀ (d n j c:Nat) (o:List Int),j+d=(nb y).length+1->d < n->c <= 255->jE o=true->o.length=L->vB o+256 ^ (i+j)*(c+dg x i*(y / 256 ^ j))=T ->
   ∃ o',jE o'=true /\ o'.length=L /\ vB o'=T /\ eS prog Lp fu Ru (X8 _ wB (λ t=>nb t) (λ t=>(nb t).length) fu G H) n (some (GU (nb x) (nb x).length (nb y) (nb y).length L (i:Int) (c:Int) (j:Int) m o)) =
    G (some (Ll (nb x) (nb x).length (nb y) (nb y).length L ((i+1:Nat):Int) m o')):=by
 intro d;have cbound:∀ (j c:Nat) (o:List Int),vB o+256 ^ (i+j)*(c+dg x i*(y / 256 ^ j))=T->0 < c->j <= (nb y).length:=by
  intro j c o he hc;have h1:256 ^ (i+j)*1 <= 256 ^ (i+j)*(c+dg x i*(y / 256 ^ j)):=yU _ (by omega);have h2:256 ^ (i+j) < 256 ^ (i+1+(nb y).length):=by omega
  have:=(Nat.pow_lt_pow_iff_right (a:=256) (by decide)).1 h2;omega
 have last:∀ (n j:Nat) (o:List Int),(nb y).length <= j->j <= (nb y).length+1->0 < n->jE o=true->o.length=L->vB o+256 ^ (i+j)*(0+dg x i*(y / 256 ^ j))=T ->
   ∃ o',jE o'=true /\ o'.length=L /\ vB o'=T /\ eS prog Lp fu Ru (X8 _ wB (λ t=>nb t) (λ t=>(nb t).length) fu G H) n (some (GU (nb x) (nb x).length (nb y) (nb y).length L (i:Int) ((0:Nat):Int) (j:Int) m o)) =
    G (some (Ll (nb x) (nb x).length (nb y) (nb y).length L ((i+1:Nat):Int) m o')):=by
  intro n j o h1 h2 hn hk hl he;obtain ⟨n,rfl⟩:=aP (by omega:n ≠ 0);refine ⟨o,hk,hl,?_,?_⟩
  ·rw [EI y j h1] at he; simpa using he
  ·rw [aF,YL x y i j 0 m L hx hy hi (by omega) (by omega) o hk hl.symm (by omega),aW (by omega),aR,aMH,bY (by omega) (by omega)]; rfl
 induction d with
 | zero=>
  intro n j c o hj hn hc hk hl he;have:c=0:=by
   rcases Ee c with h | h
   ·exact h
   ·have:=cbound j c o he h; omega
  subst this;exact last n j o (by omega) (by omega) (by omega) hk hl he
 | succ d ih=>
  intro n j c o hj hn hc hk hl he;by_cases hs:j < (nb y).length ∨ 0 < c
  ·obtain ⟨n,rfl⟩:=aP (by omega:n ≠ 0);have hij:i+j < L:=by
    rcases hs with h | h
    ·omega
    ·have:=cbound j c o he h; omega
   have hdx:=uM x i;have hdy:=uM y j;have ho:=Jh hk (i+j);have hmul:dg x i*dg y j <= 255*255:=iJ (by omega) (by omega);have hset:=Ux o (i+j) (Kf o x y i j c%256) (by omega) hk;obtain ⟨o',q1,q2,q3,q4⟩:=ih n (j+1) (Kf o x y i j c / 256) (o.set (i+j) ((Kf o x y i j c%256:Nat):Int)) (by omega) (by omega) (by simp only [Kf]; omega) (Ol _ _ _ hk (bK _ (by decide))) (by simpa using hl) (by
    rw [Ad,<-sI,bM];exact aAD _ _ _ _ _ _ _ _ _ he hset rfl)
   refine ⟨o',q1,q2,q3,?_⟩;rw [aF,YL x y i j c m L hx hy hi hc (by omega) o hk hl.symm (λ _=>hij),aT hs];exact q4
  ·have:c=0:=by omega
   subst this;exact last n j o (by omega) (by omega) (by omega) hk hl he
theorem aHa (x y L:Nat) (hx:(nb x).length <= 1048576) (hy:(nb y).length <= 1048576) (hL:L=(nb x).length+(nb y).length+1) (fu m:Nat) (hfu:(nb y).length+1 < fu):∀ (d n i:Nat) (o:List Int),i+d=(nb x).length->d < n->jE o=true->o.length=L->vB o=x%256 ^ i*y ->
  eS prog Lp fu Lm (Rt _ wB (λ t=>nb t) (λ t=>(nb t).length) fu) n (some (Ll (nb x) (nb x).length (nb y) (nb y).length L (i:Int) m o))=some (eN (x*y)):=by
 intro d
 induction d with
 | zero=>
  intro n i o hi hn hk hl he;obtain ⟨n,rfl⟩:=aP (by omega:n ≠ 0);rw [aF,aPG,aH (by omega),aD,aR,aMG,aE (by omega),aB,BK o hk,he,show i=(nb x).length by omega,aV (rJ x)]
 | succ d ih=>
  intro n i o hi hn hk hl he;obtain ⟨n,rfl⟩:=aP (by omega:n ≠ 0);rw [aF,aPG,aE (by omega),aB];have hsp:x%256 ^ (i+1)=x%256 ^ i+256 ^ i*dg x i:=by rw [bM,uU]; rfl
  have hT:x%256 ^ (i+1)*y < 256 ^ (i+1+(nb y).length):=by
   rw [dM 256 (i+1)];have h1:x%256 ^ (i+1) < 256 ^ (i+1):=bK _ (gS (by decide));have h2:=rJ y;exact Nat.mul_lt_mul'' h1 h2
  obtain ⟨o',q1,q2,q3,q4⟩:=aG9 x y i L (x%256 ^ (i+1)*y) hx hy (by omega) hL hT fu m (eS prog Lp fu Lm (Rt _ wB (λ t=>nb t) (λ t=>(nb t).length) fu) n) (Ak (Rt _ wB (λ t=>nb t) (λ t=>(nb t).length) fu)) ((nb y).length+1) fu 0 0 o (by omega) hfu (by omega) hk hl (by
   rw [he,hsp,gL]; simp [d9])
  refine iR q4 ?_;exact ih n (i+1) o' (by omega) (by omega) q1 q2 q3
theorem FZ:CallOk prog 94 WC:=by
 refine aZ (fu:=λ args=>match args with | [.c (.s (.dat _ n _)),.c (.s (.dat _ m _))]=>n+m+2 | _=>0) aV2 Tryz.func94 ?_;intro args t ht;obtain ⟨x,y,rfl,hx,hy,_,rfl⟩:=nW (F:=λ a b=>a*b) (C:=λ _ _=>true) ht;refine (aY8 _ _ _ _ _ _ _ _ _).trans ?_;have e:i64.wrap (i64.wrap (((nb x).length:Int)+((nb y).length:Int))+1)=(((nb x).length+(nb y).length+1:Nat):Int):=by
  rw [bY (n:=((nb x).length:Int)+((nb y).length:Int)) (by omega) (by omega),bY (by omega) (by omega)]; omega
 rw [e,aE (by omega),aB,bE];exact aHa x y _ hx hy rfl _ _ (by show (nb y).length+1 < (nb x).length+(nb y).length+2; omega) (nb x).length _ 0 (List.replicate ((nb x).length+(nb y).length+1) 0) (by omega) (by show (nb x).length < (nb x).length+(nb y).length+2; omega) (Xu _) (by simp) (by rw [aGI]; simp [uV])
theorem Co {x y:Nat} (h:(nb x).length <= 1048576) (h2:(nb y).length <= 1048576):uA [eN x,eN y]=some (x*y):=yF (λ a b=>a*b) (λ _ _=>true) h h2 rfl
theorem aMR (i r:Nat) (hr:i%8=r) (hi:i <= 1099511627776) (fu:Nat):∀ (d n k v:Nat),k+d=r->d < n->v < 256 ->
  eS prog aAG fu aGV (aGW fu) n (some (YA (i:Int) (v:Int) (k:Int)))=some (.int .i64 ((v / 2 ^ d%2:Nat):Int)):=by
 intro d;have hm:((i:Nat):Int).tmod 8=((r:Nat):Int):=by rw [lM (by omega)]; omega
 induction d with
 | zero=>
  intro n k v hk hn hv;obtain ⟨n,rfl⟩:=aP (by omega:n ≠ 0);rw [aF,aPH,hm,aH (by omega),aD,aR,aMI,lM (by omega),jL,uS];rfl
 | succ d ih=>
  intro n k v hk hn hv;obtain ⟨n,rfl⟩:=aP (by omega:n ≠ 0);rw [aF,aPH,hm,aE (by omega),aB];have e:i64.wrap (((v:Nat):Int).tdiv 2)=((v / 2:Nat):Int):=by
   rw [rF (by omega),bY (by omega) (by omega)]; omega
  rw [e,bY (by omega) (by omega)];have:=ih n (k+1) (v / 2) (by omega) (by omega) (by omega);rw [gR,cG 2,<-bM] at this;exact this
theorem aHb (x i:Nat):dg x (i / 8) / 2 ^ (i%8)%2=x / 2 ^ i%2:=by
 have h256:(256:Nat)=2 ^ 8:=rfl;have e1:x / 2 ^ i=x / 256 ^ (i / 8) / 2 ^ (i%8):=by
  rw [h256,<-jK,gR,<-dM,show 8*(i / 8)+i%8=i by omega]
 rw [e1,dg];have hr:i%8 < 8:=bK _ (by decide);rw [h256,show (2:Nat) ^ 8=2 ^ (i%8)*2 ^ (8 - i%8) by rw [<-dM]; congr 1; omega];rw [Ho];have:2 ^ (8 - i%8)=2*2 ^ (7 - i%8):=by rw [cG,<-bM]; congr 1; omega
 rw [this,PS]
theorem BM:CallOk prog 54 Mv:=by
 refine lA (g:=aAG) (fu:=λ _=>9) gH ⟨aK,λ _ _ h=>by cases h⟩ Tryz.func54 (by kernel_rfl) ?_;intro args t ht;unfold Mv at ht;simp only at ht;split at ht
 case h_2=>cases ht
 rename_i a n i;obtain ⟨h1,h2⟩:=aY ht;simp only [aX,bG] at h1;obtain ⟨x,rfl,rfl,h3,h4⟩:=o8 h1.1;have hi:=h1.2;cases h2;rw [h4];refine (aZc _ _ _ _).trans ?_;show _=some (AV.int .i64 ((mH x i:Nat):Int));by_cases hneg:i < 0
 ·rw [aE hneg,aB,mH,aE hneg]; rfl
 ·obtain ⟨k,rfl⟩:=b9 (by omega:0 <= i);have eq:i64.wrap (((k:Nat):Int).tdiv 8)=((k / 8:Nat):Int):=by
   rw [rF (by omega),bY (by omega) (by omega)]; omega
  rw [aH hneg,aD,eq,mH,aH hneg,aD];simp only [bE];by_cases hq:(nb x).length <= k / 8
  ·rw [aE (by omega),aB,<-aHb,BI x _ hq]; simp
  ·rw [aH (by omega),aD,aE (by omega),aB,Ac x _ (by omega)];have:=aMR k (k%8) rfl (by omega) 9 (k%8) 9 0 (dg x (k / 8)) (by omega) (by omega) (uM _ _);rw [aHb] at this;exact this
theorem tM {x:Nat} {i:Int} (h:(nb x).length <= 1048576) (h1:-9223372036854775808 <= i) (h2:i < 9223372036854775808):pG [eN x,.int .i64 i]=some (mH x i):=by
 show cond (K3 (nb x) (nb x).length && decide (-9223372036854775808 <= i /\ i < 9223372036854775808)) (some (mH (vB (nb x)) i)) none=_;rw [nV h,fY,aE ⟨h1,h2⟩]; rfl
abbrev aPO:Cg:=aGX (Nat) pG (λ t=>↑t)
theorem aV3:CfOk prog aPO.c:=gk <| aA BM <| aK
theorem aV4 {x k:Nat} (h:bl x=k+1):x / 2 ^ k%2=1:=by
 obtain ⟨h1,h2⟩:=xK x;have hx:x ≠ 0:=λ e=>by subst e; rw [Vv] at h; omega
 have h2:=h2 hx;rw [h] at h1 h2;rw [bM] at h1;have hp:0 < 2 ^ k:=gS (by decide);have:x / 2 ^ k=1:=by
  refine (Nat.div_eq_iff (by omega)).2 ?_;simp at h2; omega
 rw [this]
theorem aMS {x k:Nat} (h:bl x <= k):x / 2 ^ k%2=0:=by
 have h1:=(xK x).1;rw [jJ (cU h1 (iK (by decide) h))]
theorem aMT (x:Nat) (hx:(nb x).length <= 1048576) (fu:Nat):∀ (d n k:Nat),k=bl x+d->k <= 8388608->d < n ->
  eS prog aPO fu aGY (aGZ _ pG (λ t=>(t:Int)) fu) n (some (YC (nb x) (nb x).length (k:Int)))=some (.int .i64 ((bl x:Nat):Int)):=by
 intro d
 induction d with
 | zero=>
  intro n k hk hl hn;obtain ⟨n,rfl⟩:=aP (by omega:n ≠ 0);rw [aF,aPI];by_cases h0:k=0
  ·rw [aH (by omega),aD,aR,YD,hk]; rfl
  ·obtain ⟨q,rfl⟩:=aP h0;rw [aE (by omega),aB,bY (by omega) (by omega),show ((q.succ:Nat):Int) - 1=(q:Int) by omega];rw [show AV.s (SV.dat (TRow.ints i64 (nb x)) (nb x).length 1)=eN x from rfl,tM hx (by omega) (by omega),aC];have hb:mH x (q:Int)=1:=by
    rw [mH,aH (by omega),aD,bE]; exact aV4 (by omega)
   rw [hb,aH (by decide),aD,aR,YD,hk]; rfl
 | succ d ih=>
  intro n k hk hl hn;obtain ⟨n,rfl⟩:=aP (by omega:n ≠ 0);obtain ⟨q,rfl⟩:=aP (by omega:k ≠ 0);rw [aF,aPI,aE (by omega),aB,bY (by omega) (by omega),show ((q.succ:Nat):Int) - 1=(q:Int) by omega];rw [show AV.s (SV.dat (TRow.ints i64 (nb x)) (nb x).length 1)=eN x from rfl,tM hx (by omega) (by omega),aC];have hb:mH x (q:Int)=0:=by
   rw [mH,aH (by omega),aD,bE]; exact aMS (by omega)
  rw [hb,aE (by decide),aB];exact ih n q (by omega) (by omega) (by omega)
theorem aHc (x:Nat):bl x <= 8*(nb x).length:=by
 refine IM ?_;have:=rJ x;rwa [show (256:Nat)=2 ^ 8 from rfl,<-jK] at this
theorem Lq:CallOk prog 100 WD:=by
 refine aZ (fu:=λ args=>match args with | [.c (.s (.dat _ n _))]=>8*n+1 | _=>0) aV3 Tryz.func100 ?_;intro args t ht;obtain ⟨x,rfl,hx,rfl⟩:=Jm (F:=bl) ht;have hb:=aHc x;refine (aZe _ _ _ _ _ _).trans ?_;rw [bY (by omega) (by omega),show (8:Int)*((nb x).length:Int)=((8*(nb x).length:Nat):Int) by omega];exact aMT x hx _ (8*(nb x).length - bl x) _ _ (by omega) (by omega) (by show _ < 8*(nb x).length+1; omega)
theorem Jn {x:Nat} (h:(nb x).length <= 1048576):A4 [eN x]=some (bl x):=U3 bl h
abbrev aPP:Cg:=aG0 (Nat) jF (λ t=>nb t) (λ t=>(nb t).length) (Nat) pG (λ t=>↑t) (Int) nE (λ t=>t) (Nat) pF (λ t=>nb t) (λ t=>(nb t).length)
theorem aV5:CfOk prog aPP.c:=gk <| aA sS <| aA BM <| aA BL <| aA wT <| aK
theorem aPQ {x y:Nat} (h:x <= y):(nb x).length <= (nb y).length:=xN (iI h (rJ y))
theorem aMU (x y q r b:Nat) (hb:b < 2) (h:x=q*y+r) (hr:r < y):2*x+b=(if y <= 2*r+b then 2*q+1 else 2*q)*y+(if y <= 2*r+b then 2*r+b - y else 2*r+b) /\ (if y <= 2*r+b then 2*r+b - y else 2*r+b) < y:=by
 subst h;by_cases h:y <= 2*r+b
 ·rw [aT h,aT h];refine ⟨?_,by omega⟩;rw [gL,d9]; omega
 ·rw [aW h,aW h];refine ⟨?_,by omega⟩;rw [d9]; omega
theorem aMV (x y:Nat) (hy0:0 < y) (hx:(nb x).length <= 1000000) (hy:(nb y).length <= 1000000) (fu:Nat):∀ (k n:Nat),k <= 8*(nb x).length->k < n ->
  eS prog aPP fu aG1 (aG2 _ jF (λ t=>nb t) (λ t=>(nb t).length) _ pG (λ t=>(t:Int)) _ nE (λ t=>t) _ pF (λ t=>nb t) (λ t=>(nb t).length) fu) n
   (some (Jl (nb x) (nb x).length (nb y) (nb y).length (nb (x / 2 ^ k / y)) (nb (x / 2 ^ k / y)).length (nb (x / 2 ^ k%y)) (nb (x / 2 ^ k%y)).length ((k:Int) - 1)))=some (.tup [.s (.dat (.ints .i64 (nb (x / y))) (nb (x / y)).length 1),.s (.dat (.ints .i64 (nb (x%y))) (nb (x%y)).length 1)]):=by
 intro k
 induction k with
 | zero=>
  intro n _ hn;obtain ⟨n,rfl⟩:=aP (by omega:n ≠ 0);rw [aF,aPJ,aH (by omega),aD,aR,aMJ,jL,uS]
 | succ k ih=>
  intro n hk hn;obtain ⟨n,rfl⟩:=aP (by omega:n ≠ 0);rw [show (((k+1:Nat):Int) - 1)=(k:Int) by omega];have key:=ih n (by omega) (by omega)
  -- the numbers at this bit
  obtain ⟨X,hX⟩:∃ X,X=x / 2 ^ (k+1):=⟨_,rfl⟩;obtain ⟨b,hb⟩:∃ b,b=x / 2 ^ k%2:=⟨_,rfl⟩;have hXk:x / 2 ^ k=2*X+b:=by
   rw [hX,hb,bM,<-gR]; omega
  have hb2:b < 2:=by omega
  obtain ⟨q,hq⟩:∃ q,q=X / y:=⟨_,rfl⟩;obtain ⟨r,hr⟩:∃ r,r=X%y:=⟨_,rfl⟩;have hry:r < y:=by rw [hr]; exact bK _ hy0
  have hqr:X=q*y+r:=by rw [hq,hr,cG]; exact (eO _ _).symm
  obtain ⟨d1,d2⟩:=aMU X y q r b hb2 hqr hry;have hXx:X <= x:=by rw [hX]; exact pQ _ _
  have hqX:q <= X:=by rw [hq]; exact pQ _ _
  have eq:x / 2 ^ k / y=(if y <= 2*r+b then 2*q+1 else 2*q):=by
   rw [hXk,d1,cG,Nat.mul_add_div hy0,jJ d2,fH]
  have er:x / 2 ^ k%y=(if y <= 2*r+b then 2*r+b - y else 2*r+b):=by
   rw [hXk]
   conv=>lhs; rw [d1]
   rw [cG,Nat.mul_add_mod,aV d2]
  rw [eq,er] at key;rw [<-hX,<-hq,<-hr]
  -- lengths
  have lx:∀ z,z <= x->(nb z).length <= 1048576:=λ z hz=>by have:=aPQ hz; omega
  have big:∀ z w:Nat,z <= 4*w+4->(nb w).length <= 1000000->(nb z).length <= 1048576:=by
   intro z w h1 h2;refine cK (xN (k:=(nb w).length+1) ?_) (by omega);have:=rJ w;rw [bM]; omega
  have lr:(nb r).length <= 1048576:=big r y (by omega) hy;have lq:(nb q).length <= 1048576:=lx q (by omega);have ly:(nb y).length <= 1048576:=by omega
  have l2r:(nb (r+r)).length <= 1048576:=big _ y (by omega) hy;have l2r1:(nb (r+r+1)).length <= 1048576:=big _ y (by omega) hy;have l2q:(nb (q+q)).length <= 1048576:=big _ x (by omega) hx;have e1:AV.s (SV.dat (TRow.ints i64 [(1:Int)]) 1 1)=eN 1:=by
   have:nb 1=[1]:=by decide
   simp only [eN,this,KC]
  have eN':∀ z,AV.s (SV.dat (TRow.ints i64 (nb z)) (nb z).length 1)=eN z:=λ _=>rfl;have l1:(nb 1).length <= 1048576:=by decide
  have hbit:mH x (k:Int)=b:=by rw [mH,aH (by omega),aD,bE,hb]
  have cmp0:∀ z:Nat,decide ((0:Int) <= qO z y)=decide (y <= z):=λ z=>Az z y;rw [aF,aPJ,aE (by omega:(0:Int) <= (k:Int)),aB];simp only [eN',e1];rw [iQ lr lr,aC,tM (lx x (bV _)) (by omega) (by omega),aC,hbit,bY (by omega) (by omega)];by_cases h1:b=1
  ·subst h1;rw [aE (by rfl),aB,iQ l2r l1,aC,iQ lq lq,aC,mM l2r1 ly,aC,cmp0];by_cases hge:y <= 2*r+1
   ·rw [aT hge,aT hge] at key;rw [aE (by omega),aB,o9 l2r1 ly (by omega),aC,iQ l2q l1,aC];rw [show r+r+1 - y=2*r+1 - y by omega,show q+q+1=2*q+1 by omega];exact key
   ·rw [aW hge,aW hge] at key;rw [aH (by omega),aD,show r+r+1=2*r+1 by omega,show q+q=2*q by omega];exact key
  ·have:b=0:=by omega
   subst this;rw [aH (by decide),aD,iQ lq lq,aC,mM l2r ly,aC,cmp0];rw [fH] at key;by_cases hge:y <= 2*r
   ·rw [aT hge,aT hge] at key;rw [aE (by omega),aB,o9 l2r ly (by omega),aC,iQ l2q l1,aC];rw [show r+r - y=2*r - y by omega,show q+q+1=2*q+1 by omega];exact key
   ·rw [aW hge,aW hge] at key;rw [aH (by omega),aD,show r+r=2*r by omega,show q+q=2*q by omega];exact key
theorem Fa:CallOk prog 26 WE:=by
 refine aZ (fu:=λ args=>match args with | [.c (.s (.dat _ n _)),_]=>8*n+1 | _=>0) aV5 Tryz.func26 ?_;intro args t ht;obtain ⟨x,y,rfl,hx,hy,hc,rfl⟩:=nW (F:=λ a b=>(a / b,a%b)) (C:=λ a b=>Nat.blt 0 b && Nat.ble (nb a).length 1000000 && Nat.ble (nb b).length 1000000) ht;simp only [aX,BJ,bG] at hc;obtain ⟨⟨h0,h1⟩,h2⟩:=hc;have h0:0 < y:=cF h0;refine (aZg ..).trans ?_;have e:i64.wrap (i64.wrap ((8:Int)*((nb x).length:Int)) - 1)=((8*(nb x).length:Nat):Int) - 1:=by
  rw [bY (n:=(8:Int)*_) (by omega) (by omega),bY (by omega) (by omega)]; omega
 have hz:x / 2 ^ (8*(nb x).length)=0:=by
  refine jJ ?_;have:=rJ x;rwa [show (256:Nat)=2 ^ 8 from rfl,<-jK] at this
 have:=aMV x y h0 h1 h2 (8*(nb x).length+1) (8*(nb x).length) (8*(nb x).length+1) (bV _) (lD _);rw [hz,Nat.zero_div,BW,A1] at this;rw [e];exact this
theorem Cp {x y:Nat} (h:(nb x).length <= 1000000) (h2:(nb y).length <= 1000000) (h0:0 < y):Gz [eN x,eN y]=some (x / y,x%y) :=
 yF (λ a b=>(a / b,a%b)) (λ a b=>Nat.blt 0 b && Nat.ble (nb a).length 1000000 && Nat.ble (nb b).length 1000000) (by omega) (by omega) (by
  simp only [aX,BJ,bG];exact ⟨⟨iX h0,h⟩,h2⟩)
theorem Rx (x k i:Nat) (hi:i < k):(lo i x++List.replicate (k - i) 0).set i ((dg x i:Nat):Int)=lo (i+1) x++List.replicate (k - (i+1)) 0:=by
 have hlo:∀ (i x:Nat),lo (i+1) x=lo i x++[((dg x i:Nat):Int)]:=by
  intro i
  induction i with
  | zero=>intro x; simp [lo,dg]
  | succ i ih=>
   intro x;rw [lo,ih (x / 256),lo,Fr];have:dg (x / 256) i=dg x (i+1):=by rw [dg,dg,gR,bM,cG]
   rw [this]
 have hl:(lo i x).length=i:=i4 i x;rw [hlo,show k - i=(k - (i+1))+1 by omega,Fy,Eb _ _ (by omega),hl,i0,yS,lN];rfl
abbrev aPR:Cg:=aG3 (Nat) uA (λ t=>nb t) (λ t=>(nb t).length) (Nat) wC (λ t=>nb t) (λ t=>(nb t).length) (Nat) jF (λ t=>nb t) (λ t=>(nb t).length)
theorem aV6:CfOk prog aPR.c:=gk <| aA FZ <| aA GW <| aA sS <| aK
def aMW (v:Nat) (s:Str):Nat × Bool:=cond (s.all oO) (tS v s,true) (0,false)
theorem aMX (s:Str) (hl:s.length <= 65536) (fu:Nat):∀ (d n i v:Nat),i+d=s.length->d < n->v < 256 ^ i ->
  eS prog aPR fu aG4 (YG _ uA (λ t=>nb t) (λ t=>(nb t).length) _ wC (λ t=>nb t) (λ t=>(nb t).length) _ jF (λ t=>nb t) (λ t=>(nb t).length) fu) n (some (YF s (nb v) (nb v).length (i:Int))) =
   some (kL.enc (aMW v (s.drop i))):=by
 intro d;have enc:∀ a b,kL.enc (a,b)=.tup [.s (.dat (.ints .i64 (nb a)) (nb a).length 1),.s (.pl (.bool b))]:=λ _ _=>rfl
 induction d with
 | zero=>
  intro n i v hi hn hv;obtain ⟨n,rfl⟩:=aP (by omega:n ≠ 0);have:i=s.length:=by omega
  subst this;rw [aF,aPL,aH (by omega),aD,aR,aMK,PG]; rfl
 | succ d ih=>
  intro n i v hi hn hv;obtain ⟨n,rfl⟩:=aP (by omega:n ≠ 0);have hb:0 <= (i:Int) /\ (i:Int) < (s.length:Int):=by omega
  rw [aF,aPL,aE (by omega:(i:Int) < (s.length:Int)),aB,aE hb,aB,aB,bE];have edr:aMW v (s.drop i)=cond (oO (s.getD i 0) && (s.drop (i+1)).all oO) (tS (v*10+((s.getD i 0).toNat - 48)) (s.drop (i+1)),true) (0,false):=by
   rw [aAH s i 0 (by omega)]; rfl
  rw [edr];have hd:oO (s.getD i 0)=(decide (48 <= (s.getD i 0).toNat) && decide ((s.getD i 0).toNat <= 57)):=by simp only [oO,BJ]
  rw [hd];by_cases h1:(s.getD i 0).toNat < 48
  ·rw [aE (by omega:(((s.getD i 0).toNat:Nat):Int) < 48),aB,aR,aG5,aH (by omega:¬ 48 <= (s.getD i 0).toNat),pC,pC,aD,enc,A1];rfl
  ·rw [aH (by omega:¬ (((s.getD i 0).toNat:Nat):Int) < 48),aD];by_cases h2:57 < (s.getD i 0).toNat
   ·rw [aE (by omega:(57:Int) < (((s.getD i 0).toNat:Nat):Int)),aB,aR,aG5,aH (by omega:¬ (s.getD i 0).toNat <= 57),Bool.and_false,pC,aD,enc,A1];rfl
   ·rw [aH (by omega:¬ (57:Int) < (((s.getD i 0).toNat:Nat):Int)),aD];have lv:(nb v).length <= 65536:=cK (xN hv) (by omega);have l10:(nb 10).length <= 1048576:=by decide
    have e10:AV.s (SV.dat (TRow.ints i64 [(10:Int)]) 1 1)=eN 10:=by
     have:nb 10=[10]:=by decide
     simp only [eN,this,KC]
    have hw:u64.wrap (u8.wrap ((((s.getD i 0).toNat:Nat):Int) - 48))=(((s.getD i 0).toNat - 48:Nat):Int):=by
     rw [show ((((s.getD i 0).toNat:Nat):Int) - 48)=(((s.getD i 0).toNat - 48:Nat):Int) by omega,Db,aV (by omega),fM,aV (by omega)]
    have eN':∀ z,AV.s (SV.dat (TRow.ints i64 (nb z)) (nb z).length 1)=eN z:=λ _=>rfl;have l1:(nb (v*10)).length <= 1048576:=cK (xN (k:=i+1) (by rw [bM]; omega)) (by omega);have l2:(nb ((s.getD i 0).toNat - 48)).length <= 1048576:=cK (xN (k:=1) (by omega)) (by omega);simp only [eN',e10];rw [Co (by omega) l10,aC,aB,hw,yH (by omega),aC,iQ l1 l2,aC,bY (by omega) (by omega)];rw [aE (by omega:48 <= (s.getD i 0).toNat),aE (by omega:(s.getD i 0).toNat <= 57),Fm,jX];exact ih n (i+1) _ (by omega) (by omega) (by rw [bM]; omega)
theorem Kg:CallOk prog 102 kL:=by
 refine aZ (fu:=λ args=>match args with | [.c (.s (.pl (.str s)))]=>s.length+1 | _=>0) aV6 Tryz.func102 ?_;intro args t ht;unfold kL at ht;simp only at ht;split at ht
 case h_2=>cases ht
 rename_i s;obtain ⟨hl,h2⟩:=aY ht;have hl:s.length <= 65536:=jN hl;cases h2;refine (aZh ..).trans ?_;have main:=aMX s hl (s.length+1) s.length (s.length+1) 0 0 (by omega) (lD _) (by decide);rw [A1,kU] at main;have enc0:kL.enc ((0:Nat),false)=AV.tup [.s (.dat (.ints .i64 []) 0 1),.s (.pl (.bool false))]:=by
  show AV.tup [.s (.dat (.ints .i64 (nb 0)) (nb 0).length 1),.s (.pl (.bool false))]=_;rw [A1]; rfl
 rcases s with _ | ⟨c,_ | ⟨d,r⟩⟩
 ·rw [show wA []=false from rfl,aD,enc0]; rfl
 ·rw [aH (by simp),aD];have h1:¬ (1:Int) < (([c]:Str).length:Int):=by simp
  rw [aH h1,aD];refine main.trans ?_;simp only [aMW,wA,Aq,List.all_nil,Fo]
 ·rw [aH (by simp; omega),aD];have h1:(1:Int) < (((c :: d :: r:Str)).length:Int):=by simp; omega
  have h2:(0:Int) <= 0 /\ (0:Int) < (((c :: d :: r:Str)).length:Int):=by simp; omega
  rw [aE h1,aB,aE h2,aB];have hg:List.getD (c :: d :: r) (Int.toNat 0) 0=c:=rfl;rw [hg];have hc:decide (((c.toNat:Nat):Int)=48)=Nat.beq c.toNat 48:=by
   rw [uN]; exact j7.2 (by omega)
  rw [hc];simp only [wA];cases hb:Nat.beq c.toNat 48
  ·simp only [aD,lL,jX];refine main.trans ?_;simp only [aMW];rw [Aq]
  ·simp only [aB,jW,pC,aD,enc0]
theorem Jo {s:Str} (h:s.length <= 65536):z8 [.str s]=some (cond (wA s) (tS 0 s,true) (0,false)):=by
 simp only [z8,kL,h,oF,aB]
theorem YM {l:List Int} (h:jE l=true):vS (l.map b8)=vB l:=by
 induction l with
 | nil=>rfl
 | cons x r ih=>
  simp only [jE,aX,bG] at h;have ih:=ih h.2;simp only [vS,mQ,vB] at ih ⊢;rw [ih];have:(lO (b8 x)).toNat=x.toNat:=by
   simp only [lO,b8,bE,UInt8.toNat_ofNat'];omega
  rw [this]
end
end Go.Eng
