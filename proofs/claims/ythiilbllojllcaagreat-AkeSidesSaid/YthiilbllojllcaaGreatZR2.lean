import Derived.Test.YthiilbllojllcaaGreatZR1
namespace Go.Eng
open Go.IntKind (u64 i64 u8)
noncomputable section
set_option linter.all false
def dg (x i:Nat):Nat:=x / 256 ^ i%256
theorem xY (x i:Nat):dg x i < 256:=bH _ (by decide)
theorem CU (x i:Nat) (h:i < (nb x).length):(nb x).getD i 0=((dg x i:Nat):Int):=aQu x i h
theorem G0 (x i:Nat) (h:(nb x).length <= i):x / 256 ^ i=0:=by
 refine lG (dD (uE x) (kM (by decide) h))
theorem DG (x i:Nat) (h:(nb x).length <= i):dg x i=0:=by rw [dg,G0 x i h]
theorem CW (x i:Nat):x / 256 ^ (i+1)=x / 256 ^ i / 256:=by rw [bM,jE]
theorem Sx (l:List Int) (d:Nat):vB (l++[((d:Nat):Int)])=vB l+256 ^ l.length*d:=by
 rw [aIt]; simp [vB]
theorem Wb {l:List Int} (h:kX l=true) {d:Nat} (hd:d < 256):kX (l++[((d:Nat):Int)])=true:=by
 rw [aAK,h]; simp [kX]; omega
theorem Zm:∀ (l:List Int) (i v:Nat),i < l.length->kX l=true->vB (l.set i (v:Int))+256 ^ i*(l.getD i 0).toNat=vB l+256 ^ i*v:=by
 intro l
 induction l with
 | nil=>intro i v h; simp at h
 | cons x r ih=>
  intro i v h hk;simp only [kX,aW,bJ] at hk;cases i with
  | zero=>simp [vB]; omega
  | succ i=>
   have:=ih i v (by simpa using h) hk.2;simp only [KG,Ey,vB,bM];rw [bV (256 ^ i) 256,dU,dU]; omega
theorem Sy:∀ (l:List Int) (i v:Nat),kX l=true->v < 256->kX (l.set i (v:Int))=true:=by
 intro l
 induction l with
 | nil=>intro i v h _; simp [kX]
 | cons x r ih=>
  intro i v h hv;simp only [kX,aW] at h;cases i with
  | zero=>simp [kX,h.2]; omega
  | succ i=>simp only [KG,kX,h.1,ih i v h.2 hv,CY]
theorem My {l:List Int} (h:kX l=true) (i:Nat):0 <= l.getD i 0 /\ l.getD i 0 < 256:=by
 induction l generalizing i with
 | nil=>simp
 | cons x r ih=>
  simp only [kX,aW,bJ] at h;cases i with
  | zero=>simpa using h.1
  | succ i=>rw [Ey]; exact ih h.2 i
theorem aDh:∀ (l:List Int) (k:Nat),kX l=true->vB (l.take k)=vB l%256 ^ k:=by
 intro l
 induction l with
 | nil=>intro k _; simp [vB]
 | cons x r ih=>
  intro k h;simp only [kX,aW,bJ] at h;cases k with
  | zero=>simp [vB,qK]
  | succ k=>
   simp only [sL,vB,ih k h.2];rw [bM,bV (256 ^ k),qJ];have e1:(x.toNat+256*vB r)%256=x.toNat:=by omega
   have e2:(x.toNat+256*vB r) / 256=vB r:=by omega
   rw [e1,e2]
theorem Wc {l:List Int} (k:Nat) (h:kX l=true):kX (l.take k)=true:=by
 induction l generalizing k with
 | nil=>simp [kX]
 | cons x r ih=>
  simp only [kX,aW] at h;cases k with
  | zero=>rfl
  | succ k=>simp only [sL,kX,h.1,ih k h.2,CY]
theorem aDi (k:Nat):kX (List.replicate k 0)=true:=by
 induction k with
 | zero=>rfl
 | succ k ih=>simp only [x8,kX,ih]; rfl
theorem aNH (k:Nat):vB (List.replicate k 0)=0:=by
 induction k with
 | zero=>rfl
 | succ k ih=>simp [x8,vB,ih]
theorem aGc (x y k:Nat):tV (x%256 ^ (k+1)) (y%256 ^ (k+1))=cond (decide (dg x k < dg y k)) (-1) (cond (decide (dg y k < dg x k)) 1 (tV (x%256 ^ k) (y%256 ^ k))):=by
 have hx:x%256 ^ (k+1)=x%256 ^ k+256 ^ k*dg x k:=by rw [bM,qJ]; rfl
 have hy:y%256 ^ (k+1)=y%256 ^ k+256 ^ k*dg y k:=by rw [bM,qJ]; rfl
 have hp:0 < 256 ^ k:=jF (by decide);have bx:=bH x hp;have byy:=bH y hp;rw [hx,hy];generalize 256 ^ k=B at *;generalize x%B=r at *;generalize y%B=s at *;generalize dg x k=p at *;generalize dg y k=q at *;unfold tV;by_cases h1:p < q
 ·have:B*p+B <= B*q:=by rw [<-Nat.mul_succ]; exact At _ h1
  have h2:r+B*p < s+B*q:=by omega
  simp [h1,h2]
 ·by_cases h2:q < p
  ·have:B*q+B <= B*p:=by rw [<-Nat.mul_succ]; exact At _ h2
   have h3:s+B*q < r+B*p:=by omega
   have h4:¬ r+B*p < s+B*q:=by omega
   simp [h1,h2,h3,h4]
  ·have:p=q:=by omega
   subst this;simp
theorem aDj {x y:Nat} (h:(nb x).length < (nb y).length):x < y :=
 dD (uE x) (N7 h)
theorem aGd (V B X Y c x:Nat) (h:V+B*(c+X+Y)=x):V+B*((c+X%256+Y%256)%256)+B*256*((c+X%256+Y%256) / 256+X / 256+Y / 256)=x:=by
 rw [<-h,dU,sN,<-yC];congr 2; omega
theorem aGe (V B X Y c x y t c':Nat) (h:V+y+B*X=x+B*(Y+c)) (ht:t+c+Y%256=X%256+256*c'):V+B*t+y+B*256*(X / 256)=x+B*256*(Y / 256+c'):=by
 have e:t+256*(X / 256)+(Y+c)=X+256*(Y / 256+c'):=by omega
 have:=dW (B*·) e;simp only [yC] at this h ⊢;rw [dU,dU,dU];have a1:B*(256*(X / 256))=256*(B*(X / 256)):=by rw [HA]
 omega
theorem aGf (V V' B o c a Y t T:Nat) (h:V+B*(c+a*Y)=T) (hv:V'+B*o=V+B*(t%256)) (ht:t=o+c+a*(Y%256)):V'+B*256*(t / 256+a*(Y / 256))=T:=by
 have e:t%256+256*(t / 256)+256*(a*(Y / 256))=o+(c+a*Y):=by
  have h1:t%256+256*(t / 256)=t:=Nat.mod_add_div _ _;have h2:a*Y=a*(Y%256)+256*(a*(Y / 256)):=by
   rw [HA,<-yC,Nat.mod_add_div]
  omega
 have:=dW (B*·) e;simp only [yC] at this h ⊢;rw [dU,dU];omega
open Go Go.Proofs
def Mz:Cg:=⟨⟨cV [],[],cX⟩,[(3,[0,3],[0,3])]⟩
def M0 (n0:Nat) (v3:Int) (n21:Nat) (t_0:TypeId) (fL:Nat) (aQ:List Int):St:={ tm:=[(0,.s (.own 0 n0 1)),(3,.int .i64 v3),(21,.s (.own 0 n21 1))],hp:=[(0,{ ty:=t_0,n:=fL,row:=Row.t (.ints .i64 aQ) })],nx:=1,sz:=21 }
def Sz:Code:=cN (bN [1,1,0,2] (bB Tryz.f51))
def M1 (fu:Nat) (n:Nat):=mD prog Mz fu [1,1,0,2] (bB Tryz.f51) (Qa prog Tryz.f51 (n) ((1:Nat)))
abbrev bFX (fu:Nat) (n:Nat) (n0:Nat) (v3:Int) (n21:Nat) (t_0:TypeId) (fL:Nat) (aQ:List Int):=eV prog Mz fu Sz (M1 fu n) fu (some (M0 n0 v3 n21 t_0 fL aQ))
theorem bFY (fu:Nat) (ty:TypeId) (xs:List Int) (n:Nat):aRs prog Tryz.f51 Mz fu (ty) (.ints .i64 xs) (n) (1) ([])=bFX fu n n (n:Int) n ty (n*1) xs:=by kernel_rfl
def G4 (n0:Nat) (v3:Int) (n21:Nat) (t_0:TypeId) (fL:Nat) (aQ:List Int):St:={ tm:=[(0,.s (.own 0 n0 1)),(3,.int .i64 v3),(21,.s (.own 0 n21 1))],hp:=[(0,{ ty:=t_0,n:=fL,row:=Row.t (.ints .i64 aQ) })],nx:=1,sz:=21 }
theorem aNI {β:Type} (fu:Nat) (G:FG β) (H:FH β) (n0:Nat) (v3:Int) (n21:Nat) (t_0:TypeId) (fL:Nat) (aQ:List Int):fV prog Mz fu Sz G H (M0 n0 v3 n21 t_0 fL aQ)=bif decide (0 < v3) then bif decide (0 <= i64.wrap (v3 - 1) /\ i64.wrap (v3 - 1) < (n0:Int)) then bif decide (aQ.getD (i64.wrap (v3 - 1)).toNat (0:Int)=0) then G (some (M0 n0 (i64.wrap (v3 - 1)) n21 t_0 fL aQ)) else H (Ex.exit 0) (some (G4 n0 v3 n21 t_0 fL aQ)) else none else H (Ex.exit 0) (some (G4 n0 v3 n21 t_0 fL aQ)):=by kernel_rfl
theorem aNJ (fu:Nat) (n:Nat) (n0:Nat) (v3:Int) (n21:Nat) (t_0:TypeId) (fL:Nat) (aQ:List Int):M1 fu n (Ex.exit 0) (G4 n0 v3 n21 t_0 fL aQ)=bif decide ((0:Int) <= 0 /\ 0 <= v3 /\ v3 <= (n0:Int)) then bif n21.beq n && true then some (AV.s (.sub 0 0 (v3 - 0).toNat 1),.ints .i64 aQ) else none else none:=by kernel_rfl
def Zn:Cg:=⟨⟨cV [],[],cX⟩,[(3,[0,3],[0,3])]⟩
def Wd (x0:List Int) (n0:Nat) (v3:Int):St:={ tm:=[(0,.s (dI x0 n0)),(3,.int .i64 v3)],hp:=[],nx:=0,sz:=21 }
def aDk:Code:=cN (bN [1,1,0,2] (bB Tryz.f51))
def We (fu:Nat):=mD prog Zn fu [1,1,0,2] (bB Tryz.f51) (gI prog Tryz.f51)
abbrev bH2 (fu:Nat) (x0:List Int) (n0:Nat) (v3:Int):=eV prog Zn fu aDk (We fu ) fu (some (Wd x0 n0 v3))
theorem bH3 (fu:Nat) (xs:List Int) (n:Nat):aS prog Tryz.f51 Zn fu [.s (dI xs n)]=bH2 fu xs n (n:Int):=by kernel_rfl
def KD (x0:List Int) (n0:Nat) (v3:Int):St:={ tm:=[(0,.s (dI x0 n0)),(3,.int .i64 v3)],hp:=[],nx:=0,sz:=21 }
theorem aYo {β:Type} (fu:Nat) (G:FG β) (H:FH β) (x0:List Int) (n0:Nat) (v3:Int):fV prog Zn fu aDk G H (Wd x0 n0 v3)=bif decide (0 < v3) then bif decide (0 <= i64.wrap (v3 - 1) /\ i64.wrap (v3 - 1) < (n0:Int)) then bif decide (x0.getD (i64.wrap (v3 - 1)).toNat (0:Int)=0) then G (some (Wd x0 n0 (i64.wrap (v3 - 1)))) else H (Ex.exit 0) (some (KD x0 n0 v3)) else none else H (Ex.exit 0) (some (KD x0 n0 v3)):=by kernel_rfl
theorem aVj (fu:Nat) (x0:List Int) (n0:Nat) (v3:Int):We fu  (Ex.exit 0) (KD x0 n0 v3)=bif decide ((0:Int) <= 0 /\ 0 <= v3 /\ v3 <= (n0:Int)) then some (AV.s (.dat (.ints .i64 (List.take ((v3 - 0).toNat*1) (List.drop 0 x0))) (v3 - 0).toNat 1)) else none:=by kernel_rfl
section
variable (T0:Type) (R0:FA T0) (aG:T0->List Int) (aO:T0->Nat)
def aNK:Cg:=⟨⟨cV [(51,⟨R0,λ t=>AV.s (dI (aG t) (aO t))⟩)],[3],efs [(51,(Fu HV))]⟩,[(4,[0,3,4],[3])]⟩
def aDl (s0:Str) (n3:Nat) (v4:Int) (fL:Nat) (aQ:List Int):St:={ tm:=[(0,.str s0),(3,.s (.own 0 n3 1)),(4,.int .i64 v4)],hp:=[(0,{ ty:=3,n:=fL,row:=Row.t (.ints .i64 aQ) })],nx:=1,sz:=20 }
def aNL:Code:=cN (bN [1,1,0,1,2] (bB Tryz.f19))
def aNM (fu:Nat):=mD prog (aNK T0 R0 aG aO) fu [1,1,0,1,2] (bB Tryz.f19) (gI prog Tryz.f19)
abbrev bH4 (fu:Nat) (s0:Str) (n3:Nat) (v4:Int) (fL:Nat) (aQ:List Int):=eV prog (aNK T0 R0 aG aO) fu aNL (aNM T0 R0 aG aO fu ) fu (some (aDl s0 n3 v4 fL aQ))
theorem bH5 (fu:Nat) (s:Str):aS prog Tryz.f19 (aNK T0 R0 aG aO) fu [.str s]=bH4 T0 R0 aG aO fu s 0 0 0 []:=by kernel_rfl
def aDm (n3 fL:Nat) (aQ:List Int):St:={ tm:=[(3,.s (.own 0 n3 1))],hp:=[(0,{ ty:=3,n:=fL,row:=Row.t (.ints .i64 aQ) })],nx:=1,sz:=20 }
theorem aYp {β:Type} (fu:Nat) (G:FG β) (H:FH β) (s0:Str) (n3:Nat) (v4:Int) (fL:Nat) (aQ:List Int):fV prog (aNK T0 R0 aG aO) fu aNL G H (aDl s0 n3 v4 fL aQ)=bif decide (v4 < (↑(List.length s0):Int)) then bif decide (0 <= v4 /\ v4 < (↑(List.length s0):Int)) then bif decide (n3+1 <= 1099511627776) then G (some (aDl s0 (n3+1) (i64.wrap (v4+1)) ((n3+1)*1) (aQ++[i64.wrap (↑(List.getD s0 v4.toNat (0:UInt8)).toNat:Int)]))) else none else none else H (Ex.exit 0) (some (aDm n3 fL aQ)):=by kernel_rfl
theorem aVk (fu:Nat) (n3 fL:Nat) (aQ:List Int):aNM T0 R0 aG aO fu  (Ex.exit 0) (aDm n3 fL aQ)=bif decide (n3 <= 1099511627776) then some (AV.s (dI (List.take (cK aQ*1) (List.drop 0 aQ)) (cK aQ))) else none:=by kernel_rfl
end
def aGg:Cg:=⟨⟨cV [],[3],cX⟩,[(3,[0,3],[3])]⟩
def aDn (v0:Int) (n3 fL:Nat) (aQ:List Int):St:={ tm:=[(0,.int .u64 v0),(3,.s (.own 0 n3 1))],hp:=[(0,{ ty:=3,n:=fL,row:=Row.t (.ints .i64 aQ) })],nx:=1,sz:=15 }
def aNN:Code:=cN (bN [1,1,0,2] (bB Tryz.f93))
def aNO (fu:Nat):=mD prog aGg fu [1,1,0,2] (bB Tryz.f93) (gI prog Tryz.f93)
abbrev bH6 (fu:Nat) (v0:Int) (n3 fL:Nat) (aQ:List Int):=eV prog aGg fu aNN (aNO fu ) fu (some (aDn v0 n3 fL aQ))
theorem bH7 (fu:Nat) (v:Int):aS prog Tryz.f93 aGg fu [.int .u64 v]=bH6 fu v 0 0 []:=by kernel_rfl
def aDo (n3 fL:Nat) (aQ:List Int):St:={ tm:=[(3,.s (.own 0 n3 1))],hp:=[(0,{ ty:=3,n:=fL,row:=Row.t (.ints .i64 aQ) })],nx:=1,sz:=15 }
theorem aYq {β:Type} (fu:Nat) (G:FG β) (H:FH β) (v0:Int) (n3 fL:Nat) (aQ:List Int):fV prog aGg fu aNN G H (aDn v0 n3 fL aQ)=bif decide (0 < v0) then bif decide (n3+1 <= 1099511627776) then G (some (aDn (u64.wrap (v0.tdiv 256)) (n3+1) ((n3+1)*1) (aQ++[i64.wrap (v0.tmod 256)]))) else none else H (Ex.exit 0) (some (aDo n3 fL aQ)):=by kernel_rfl
theorem aDp (fu:Nat) (n3 fL:Nat) (aQ:List Int):aNO fu  (Ex.exit 0) (aDo n3 fL aQ)=some (AV.s (dI aQ n3)):=by kernel_rfl
def aGh:Cg:=⟨⟨cV [],[],cX⟩,[(7,[0,1,5],[4])]⟩
def aDq (x0:List Int) (n0:Nat) (x1:List Int) (n1:Nat) (v5:Int):St:={ tm:=[(0,.s (dI x0 n0)),(1,.s (dI x1 n1)),(5,.int .i64 v5)],hp:=[],nx:=0,sz:=41 }
def aNP:Code:=cN (bN [1,1,0,1,2] (bB Tryz.f48))
def aDr (fu:Nat):=mD prog aGh fu [1,1,0,1,2] (bB Tryz.f48) (gI prog Tryz.f48)
abbrev bH8 (fu:Nat) (x0:List Int) (n0:Nat) (x1:List Int) (n1:Nat) (v5:Int):=eV prog aGh fu aNP (aDr fu ) fu (some (aDq x0 n0 x1 n1 v5))
theorem bH9 (fu:Nat) (a:List Int) (n:Nat) (b:List Int) (m:Nat):aS prog Tryz.f48 aGh fu [.s (dI a n),.s (dI b m)]=bif !decide ((n:Int)=(m:Int)) then bif decide ((n:Int) < (m:Int)) then some (AV.int .i64 (-1:Int)) else some (AV.int .i64 1) else bH8 fu a n b m (i64.wrap ((n:Int) - 1)):=by kernel_rfl
def Zo (v4:Int):St:={ tm:=[(4,.int .i64 v4)],hp:=[],nx:=0,sz:=41 }
def aDs:St:={ tm:=[(4,.s SV.junk)],hp:=[],nx:=0,sz:=41 }
theorem aYr {β:Type} (fu:Nat) (G:FG β) (H:FH β) (x0:List Int) (n0:Nat) (x1:List Int) (n1:Nat) (v5:Int):fV prog aGh fu aNP G H (aDq x0 n0 x1 n1 v5)=bif decide (0 <= v5) then bif decide (0 <= v5 /\ v5 < (n0:Int)) then bif decide (0 <= v5 /\ v5 < (n1:Int)) then bif decide (x0.getD v5.toNat 0 < x1.getD v5.toNat 0) then H Ex.ret (some (Zo (-1:Int))) else bif decide (0 <= v5 /\ v5 < (n0:Int)) then bif decide (0 <= v5 /\ v5 < (n1:Int)) then bif decide (x1.getD v5.toNat 0 < x0.getD v5.toNat 0) then H Ex.ret (some (Zo 1)) else G (some (aDq x0 n0 x1 n1 (i64.wrap (v5 - 1)))) else none else none else none else none else H (Ex.exit 0) (some aDs):=by kernel_rfl
theorem aNQ (fu:Nat) (v4:Int):aDr fu  Ex.ret (Zo v4)=some (AV.int .i64 v4):=by kernel_rfl
theorem aVl (fu:Nat):aDr fu  (Ex.exit 0) (aDs )=some (AV.int .i64 0):=by kernel_rfl
section
variable (T0:Type) (R0:FA T0) (aG:T0->List Int) (aO:T0->Nat)
def aNR:Cg:=⟨⟨cV [(51,⟨R0,λ t=>AV.s (dI (aG t) (aO t))⟩)],[5],efs [(51,(Fu HV))]⟩,[(5,[0,1,5,6,7],[5])]⟩
def zV (x0:List Int) (n0:Nat) (x1:List Int) (n1 n5:Nat) (v6 v7:Int) (fL:Nat) (aQ:List Int):St:={ tm:=[(0,.s (dI x0 n0)),(1,.s (dI x1 n1)),(5,.s (.own 0 n5 1)),(6,.int .i64 v6),(7,.int .i64 v7)],hp:=[(0,{ ty:=3,n:=fL,row:=Row.t (.ints .i64 aQ) })],nx:=1,sz:=53 }
def aDt:Code:=cN (bN [1,1,1,0,1,2] (bB Tryz.f46))
def aDu (fu:Nat):=mD prog (aNR T0 R0 aG aO) fu [1,1,1,0,1,2] (bB Tryz.f46) (gI prog Tryz.f46)
abbrev bIa (fu:Nat) (x0:List Int) (n0:Nat) (x1:List Int) (n1 n5:Nat) (v6 v7:Int) (fL:Nat) (aQ:List Int):=eV prog (aNR T0 R0 aG aO) fu aDt (aDu T0 R0 aG aO fu ) fu (some (zV x0 n0 x1 n1 n5 v6 v7 fL aQ))
theorem bIb (fu:Nat) (a:List Int) (n:Nat) (b:List Int) (m:Nat):aS prog Tryz.f46 (aNR T0 R0 aG aO) fu [.s (dI a n),.s (dI b m)]=bIa T0 R0 aG aO fu a n b m 0 0 0 0 []:=by kernel_rfl
def KE (n5 fL:Nat) (aQ:List Int):St:={ tm:=[(5,.s (.own 0 n5 1))],hp:=[(0,{ ty:=3,n:=fL,row:=Row.t (.ints .i64 aQ) })],nx:=1,sz:=53 }
theorem bIc {β:Type} (fu:Nat) (G:FG β) (H:FH β) (x0:List Int) (n0:Nat) (x1:List Int) (n1 n5:Nat) (v6 v7:Int) (fL:Nat) (aQ:List Int):fV prog (aNR T0 R0 aG aO) fu aDt G H (zV x0 n0 x1 n1 n5 v6 v7 fL aQ)=bif decide (v7 < (n0:Int)) then bif decide (v7 < (n0:Int)) then bif decide (0 <= v7 /\ v7 < (n0:Int)) then bif decide (v7 < (n1:Int)) then bif decide (0 <= v7 /\ v7 < (n1:Int)) then bif decide (n5+1 <= 1099511627776) then G (some (zV x0 n0 x1 n1 (n5+1) (i64.wrap ((i64.wrap (i64.wrap (v6+x0.getD v7.toNat 0)+x1.getD v7.toNat 0)).tdiv 256)) (i64.wrap (v7+1)) ((n5+1)*1) (aQ++[(i64.wrap (i64.wrap (v6+x0.getD v7.toNat 0)+x1.getD v7.toNat 0)).tmod 256]))) else none else none else bif decide (n5+1 <= 1099511627776) then G (some (zV x0 n0 x1 n1 (n5+1) (i64.wrap ((i64.wrap (v6+x0.getD v7.toNat 0)).tdiv 256)) (i64.wrap (v7+1)) ((n5+1)*1) (aQ++[(i64.wrap (v6+x0.getD v7.toNat 0)).tmod 256]))) else none else none else bif decide (v7 < (n1:Int)) then bif decide (0 <= v7 /\ v7 < (n1:Int)) then bif decide (n5+1 <= 1099511627776) then G (some (zV x0 n0 x1 n1 (n5+1) (i64.wrap ((i64.wrap (v6+x1.getD v7.toNat 0)).tdiv 256)) (i64.wrap (v7+1)) ((n5+1)*1) (aQ++[(i64.wrap (v6+x1.getD v7.toNat 0)).tmod 256]))) else none else none else bif decide (n5+1 <= 1099511627776) then G (some (zV x0 n0 x1 n1 (n5+1) (i64.wrap (v6.tdiv 256)) (i64.wrap (v7+1)) ((n5+1)*1) (aQ++[v6.tmod 256]))) else none else bif decide (v7 < (n1:Int)) || decide (0 < v6) then bif decide (v7 < (n0:Int)) then bif decide (0 <= v7 /\ v7 < (n0:Int)) then bif decide (v7 < (n1:Int)) then bif decide (0 <= v7 /\ v7 < (n1:Int)) then bif decide (n5+1 <= 1099511627776) then G (some (zV x0 n0 x1 n1 (n5+1) (i64.wrap ((i64.wrap (i64.wrap (v6+x0.getD v7.toNat 0)+x1.getD v7.toNat 0)).tdiv 256)) (i64.wrap (v7+1)) ((n5+1)*1) (aQ++[(i64.wrap (i64.wrap (v6+x0.getD v7.toNat 0)+x1.getD v7.toNat 0)).tmod 256]))) else none else none else bif decide (n5+1 <= 1099511627776) then G (some (zV x0 n0 x1 n1 (n5+1) (i64.wrap ((i64.wrap (v6+x0.getD v7.toNat 0)).tdiv 256)) (i64.wrap (v7+1)) ((n5+1)*1) (aQ++[(i64.wrap (v6+x0.getD v7.toNat 0)).tmod 256]))) else none else none else bif decide (v7 < (n1:Int)) then bif decide (0 <= v7 /\ v7 < (n1:Int)) then bif decide (n5+1 <= 1099511627776) then G (some (zV x0 n0 x1 n1 (n5+1) (i64.wrap ((i64.wrap (v6+x1.getD v7.toNat 0)).tdiv 256)) (i64.wrap (v7+1)) ((n5+1)*1) (aQ++[(i64.wrap (v6+x1.getD v7.toNat 0)).tmod 256]))) else none else none else bif decide (n5+1 <= 1099511627776) then G (some (zV x0 n0 x1 n1 (n5+1) (i64.wrap (v6.tdiv 256)) (i64.wrap (v7+1)) ((n5+1)*1) (aQ++[v6.tmod 256]))) else none else H (Ex.exit 0) (some (KE n5 fL aQ)):=by kernel_rfl
theorem aVm (fu:Nat) (n5 fL:Nat) (aQ:List Int):aDu T0 R0 aG aO fu  (Ex.exit 0) (KE n5 fL aQ)=bif decide (n5 <= 1099511627776) then some (AV.s (dI (List.take (cK aQ*1) (List.drop 0 aQ)) (cK aQ))) else none:=by kernel_rfl
end
section
variable (T0:Type) (R0:FA T0) (aG:T0->List Int) (aO:T0->Nat)
def aNS:Cg:=⟨⟨cV [(51,⟨R0,λ t=>AV.s (dI (aG t) (aO t))⟩)],[5],efs [(51,(Fu HV))]⟩,[(5,[0,1,5,6,7],[5])]⟩
def BA (x0:List Int) (n0:Nat) (x1:List Int) (n1 n5:Nat) (v6 v7:Int) (fL:Nat) (aQ:List Int):St:={ tm:=[(0,.s (dI x0 n0)),(1,.s (dI x1 n1)),(5,.s (.own 0 n5 1)),(6,.int .i64 v6),(7,.int .i64 v7)],hp:=[(0,{ ty:=3,n:=fL,row:=Row.t (.ints .i64 aQ) })],nx:=1,sz:=41 }
def aDv:Code:=cN (bN [1,1,1,0,1,2] (bB Tryz.f49))
def aNT (fu:Nat):=mD prog (aNS T0 R0 aG aO) fu [1,1,1,0,1,2] (bB Tryz.f49) (gI prog Tryz.f49)
abbrev bId (fu:Nat) (x0:List Int) (n0:Nat) (x1:List Int) (n1 n5:Nat) (v6 v7:Int) (fL:Nat) (aQ:List Int):=eV prog (aNS T0 R0 aG aO) fu aDv (aNT T0 R0 aG aO fu ) fu (some (BA x0 n0 x1 n1 n5 v6 v7 fL aQ))
theorem bIe (fu:Nat) (a:List Int) (n:Nat) (b:List Int) (m:Nat):aS prog Tryz.f49 (aNS T0 R0 aG aO) fu [.s (dI a n),.s (dI b m)]=bId T0 R0 aG aO fu a n b m 0 0 0 0 []:=by kernel_rfl
def S0 (n5 fL:Nat) (aQ:List Int):St:={ tm:=[(5,.s (.own 0 n5 1))],hp:=[(0,{ ty:=3,n:=fL,row:=Row.t (.ints .i64 aQ) })],nx:=1,sz:=41 }
theorem bIf {β:Type} (fu:Nat) (G:FG β) (H:FH β) (x0:List Int) (n0:Nat) (x1:List Int) (n1 n5:Nat) (v6 v7:Int) (fL:Nat) (aQ:List Int):fV prog (aNS T0 R0 aG aO) fu aDv G H (BA x0 n0 x1 n1 n5 v6 v7 fL aQ)=bif decide (v7 < (n0:Int)) then bif decide (0 <= v7 /\ v7 < (n0:Int)) then bif decide (v7 < (n1:Int)) then bif decide (0 <= v7 /\ v7 < (n1:Int)) then bif decide (i64.wrap (i64.wrap (x0.getD v7.toNat 0 - v6) - x1.getD v7.toNat 0) < 0) then bif decide (n5+1 <= 1099511627776) then G (some (BA x0 n0 x1 n1 (n5+1) 1 (i64.wrap (v7+1)) ((n5+1)*1) (aQ++[i64.wrap (i64.wrap (i64.wrap (x0.getD v7.toNat 0 - v6) - x1.getD v7.toNat 0)+256)]))) else none else bif decide (n5+1 <= 1099511627776) then G (some (BA x0 n0 x1 n1 (n5+1) 0 (i64.wrap (v7+1)) ((n5+1)*1) (aQ++[i64.wrap (i64.wrap (x0.getD v7.toNat 0 - v6) - x1.getD v7.toNat 0)]))) else none else none else bif decide (i64.wrap (x0.getD v7.toNat 0 - v6) < 0) then bif decide (n5+1 <= 1099511627776) then G (some (BA x0 n0 x1 n1 (n5+1) 1 (i64.wrap (v7+1)) ((n5+1)*1) (aQ++[i64.wrap (i64.wrap (x0.getD v7.toNat 0 - v6)+256)]))) else none else bif decide (n5+1 <= 1099511627776) then G (some (BA x0 n0 x1 n1 (n5+1) 0 (i64.wrap (v7+1)) ((n5+1)*1) (aQ++[i64.wrap (x0.getD v7.toNat 0 - v6)]))) else none else none else H (Ex.exit 0) (some (S0 n5 fL aQ)):=by kernel_rfl
theorem aVn (fu:Nat) (n5 fL:Nat) (aQ:List Int):aNT T0 R0 aG aO fu  (Ex.exit 0) (S0 n5 fL aQ)=bif decide (n5 <= 1099511627776) then some (AV.s (dI (List.take (cK aQ*1) (List.drop 0 aQ)) (cK aQ))) else none:=by kernel_rfl
end
section
variable (T0:Type) (R0:FA T0) (aG:T0->List Int) (aO:T0->Nat)
def S1:Cg:=⟨⟨cV [(51,⟨R0,λ t=>AV.s (dI (aG t) (aO t))⟩)],[],efs [(51,(Fu HV))]⟩,[(4,[0,1,5,6],[5]),(8,[0,1,5,6,7,8],[0,1,5,6])]⟩
def PS (x0:List Int) (n0:Nat) (x1:List Int) (n1 n5:Nat) (v6:Int) (fL:Nat) (aQ:List Int):St:={ tm:=[(0,.s (dI x0 n0)),(1,.s (dI x1 n1)),(5,.s (.own 0 n5 1)),(6,.int .i64 v6)],hp:=[(0,{ ty:=3,n:=fL,row:=Row.t (.ints .i64 aQ) })],nx:=1,sz:=67 }
def PU:Code:=cN (bN [1,1,0,1,2] (bB Tryz.f130))
def Wf (fu:Nat):=mD prog (S1 T0 R0 aG aO) fu [1,1,0,1,2] (bB Tryz.f130) (gI prog Tryz.f130)
abbrev bIg (fu:Nat) (x0:List Int) (n0:Nat) (x1:List Int) (n1 n5:Nat) (v6:Int) (fL:Nat) (aQ:List Int):=eV prog (S1 T0 R0 aG aO) fu PU (Wf T0 R0 aG aO fu ) fu (some (PS x0 n0 x1 n1 n5 v6 fL aQ))
theorem bIh (fu:Nat) (a:List Int) (n:Nat) (b:List Int) (m:Nat):aS prog Tryz.f130 (S1 T0 R0 aG aO) fu [.s (dI a n),.s (dI b m)]=bif decide (0 <= i64.wrap (i64.wrap ((n:Int)+(m:Int))+1) /\ i64.wrap (i64.wrap ((n:Int)+(m:Int))+1) <= i64.wrap (i64.wrap ((n:Int)+(m:Int))+1) /\ i64.wrap (i64.wrap ((n:Int)+(m:Int))+1) <= 1099511627776) then bIg T0 R0 aG aO fu a n b m (i64.wrap (i64.wrap ((n:Int)+(m:Int))+1)).toNat 0 ((i64.wrap (i64.wrap ((n:Int)+(m:Int))+1)).toNat*1) (List.replicate (i64.wrap (i64.wrap ((n:Int)+(m:Int))+1)).toNat 0) else none:=by kernel_rfl
def I0 (x0:List Int) (n0:Nat) (x1:List Int) (n1 n5:Nat) (v6 v7 v8:Int) (fL:Nat) (aQ:List Int):St:={ tm:=[(0,.s (dI x0 n0)),(1,.s (dI x1 n1)),(5,.s (.own 0 n5 1)),(6,.int .i64 v6),(7,.int .i64 v7),(8,.int .i64 v8)],hp:=[(0,{ ty:=3,n:=fL,row:=Row.t (.ints .i64 aQ) })],nx:=1,sz:=67 }
def Wg:Code:=cN (bN [1,1,0,1,2,6,1,0,2,1,1,2] (bB Tryz.f130))
def aDw {β:Type} (fu:Nat) (G:FG β) (H:FH β):=mD prog (S1 T0 R0 aG aO) fu [1,0,2,1,1,2] PU (wD (S1 T0 R0 aG aO) PU G H)
abbrev bIi {β:Type} (fu:Nat) (G:FG β) (H:FH β) (x0:List Int) (n0:Nat) (x1:List Int) (n1 n5:Nat) (v6 v7 v8:Int) (fL:Nat) (aQ:List Int):=eV prog (S1 T0 R0 aG aO) fu Wg (aDw T0 R0 aG aO fu G H) fu (some (I0 x0 n0 x1 n1 n5 v6 v7 v8 fL aQ))
def aDx (n5 fL:Nat) (aQ:List Int):St:={ tm:=[(5,.s (.own 0 n5 1))],hp:=[(0,{ ty:=3,n:=fL,row:=Row.t (.ints .i64 aQ) })],nx:=1,sz:=67 }
theorem aYs {β:Type} (fu:Nat) (G:FG β) (H:FH β) (x0:List Int) (n0:Nat) (x1:List Int) (n1 n5:Nat) (v6:Int) (fL:Nat) (aQ:List Int):fV prog (S1 T0 R0 aG aO) fu PU G H (PS x0 n0 x1 n1 n5 v6 fL aQ)=bif decide (v6 < (n0:Int)) then bIi T0 R0 aG aO fu G H x0 n0 x1 n1 n5 v6 0 0 fL aQ else H (Ex.exit 0) (some (aDx n5 fL aQ)):=by kernel_rfl
def S2 (x0:List Int) (n0:Nat) (x1:List Int) (n1 n5:Nat) (v6:Int) (fL:Nat) (aQ:List Int):St:={ tm:=[(0,.s (dI x0 n0)),(1,.s (dI x1 n1)),(5,.s (.own 0 n5 1)),(6,.int .i64 v6)],hp:=[(0,{ ty:=3,n:=fL,row:=Row.t (.ints .i64 aQ) })],nx:=1,sz:=67 }
theorem bIj {β:Type} (fu:Nat) (G:FG β) (H:FH β) (x0:List Int) (n0:Nat) (x1:List Int) (n1 n5:Nat) (v6 v7 v8:Int) (fL:Nat) (aQ:List Int):fV prog (S1 T0 R0 aG aO) fu Wg G H (I0 x0 n0 x1 n1 n5 v6 v7 v8 fL aQ)=bif decide (v8 < (n1:Int)) || decide (0 < v7) then bif decide (0 <= i64.wrap (v6+v8) /\ i64.wrap (v6+v8) < (n5:Int)) then bif decide (v8 < (n1:Int)) then bif decide (0 <= v6 /\ v6 < (n0:Int)) then bif decide (0 <= v8 /\ v8 < (n1:Int)) then bif decide (0 <= i64.wrap (v6+v8) /\ i64.wrap (v6+v8) < (n5:Int)) then G (some (I0 x0 n0 x1 n1 n5 v6 (i64.wrap ((i64.wrap (i64.wrap (aQ.getD (i64.wrap (v6+v8)).toNat 0+v7)+i64.wrap (x0.getD v6.toNat 0*x1.getD v8.toNat 0))).tdiv 256)) (i64.wrap (v8+1)) fL (aQ.set (i64.wrap (v6+v8)).toNat ((i64.wrap (i64.wrap (aQ.getD (i64.wrap (v6+v8)).toNat 0+v7)+i64.wrap (x0.getD v6.toNat 0*x1.getD v8.toNat 0))).tmod 256)))) else none else none else none else bif decide (0 <= i64.wrap (v6+v8) /\ i64.wrap (v6+v8) < (n5:Int)) then G (some (I0 x0 n0 x1 n1 n5 v6 (i64.wrap ((i64.wrap (aQ.getD (i64.wrap (v6+v8)).toNat 0+v7)).tdiv 256)) (i64.wrap (v8+1)) fL (aQ.set (i64.wrap (v6+v8)).toNat ((i64.wrap (aQ.getD (i64.wrap (v6+v8)).toNat 0+v7)).tmod 256)))) else none else none else H (Ex.exit 2) (some (S2 x0 n0 x1 n1 n5 v6 fL aQ)):=by kernel_rfl
theorem aVo (fu:Nat) (n5 fL:Nat) (aQ:List Int):Wf T0 R0 aG aO fu  (Ex.exit 0) (aDx n5 fL aQ)=bif decide (n5 <= 1099511627776) then some (AV.s (dI (List.take (cK aQ*1) (List.drop 0 aQ)) (cK aQ))) else none:=by kernel_rfl
theorem aVp {β:Type} (fu:Nat) (G:FG β) (H:FH β) (x0:List Int) (n0:Nat) (x1:List Int) (n1 n5:Nat) (v6:Int) (fL:Nat) (aQ:List Int):aDw T0 R0 aG aO fu G H (Ex.exit 2) (S2 x0 n0 x1 n1 n5 v6 fL aQ)=G (some (PS x0 n0 x1 n1 n5 (i64.wrap (v6+1)) fL aQ)):=by kernel_rfl
end
def aGi:Cg:=⟨⟨cV [],[],cX⟩,[(6,[1,5,6],[5])]⟩
def aDy (v1 v5 v6:Int):St:={ tm:=[(1,.int .i64 v1),(5,.int .i64 v5),(6,.int .i64 v6)],hp:=[],nx:=0,sz:=31 }
def aNU:Code:=cN (bN [1,1,1,0,1,2] (bB Tryz.f47))
def aNV (fu:Nat):=mD prog aGi fu [1,1,1,0,1,2] (bB Tryz.f47) (gI prog Tryz.f47)
abbrev bIk (fu:Nat) (v1 v5 v6:Int):=eV prog aGi fu aNU (aNV fu ) fu (some (aDy v1 v5 v6))
theorem bIl (fu:Nat) (a:List Int) (n:Nat) (i:Int):aS prog Tryz.f47 aGi fu [.s (dI a n),.int .i64 i]=bif decide (i < 0) then some (AV.int .i64 0) else bif decide ((n:Int) <= i64.wrap (i.tdiv 8)) then some (AV.int .i64 0) else bif decide (0 <= i64.wrap (i.tdiv 8) /\ i64.wrap (i.tdiv 8) < (n:Int)) then bIk fu i (a.getD (i64.wrap (i.tdiv 8)).toNat 0) 0 else none:=by kernel_rfl
def aDz (v5:Int):St:={ tm:=[(5,.int .i64 v5)],hp:=[],nx:=0,sz:=31 }
theorem aYt {β:Type} (fu:Nat) (G:FG β) (H:FH β) (v1 v5 v6:Int):fV prog aGi fu aNU G H (aDy v1 v5 v6)=bif decide (v6 < v1.tmod 8) then G (some (aDy v1 (i64.wrap (v5.tdiv 2)) (i64.wrap (v6+1)))) else H (Ex.exit 0) (some (aDz v5)):=by kernel_rfl
theorem aVq (fu:Nat) (v5:Int):aNV fu  (Ex.exit 0) (aDz v5)=some (AV.int .i64 (v5.tmod 2)):=by kernel_rfl
section
variable (T0:Type) (R0:FA T0) (aG:T0->Int)
def aNW:Cg:=⟨⟨cV [(47,⟨R0,λ t=>AV.int .i64 (aG t)⟩)],[],cX⟩,[(3,[0,3],[3])]⟩
def aDA (x0:List Int) (n0:Nat) (v3:Int):St:={ tm:=[(0,.s (dI x0 n0)),(3,.int .i64 v3)],hp:=[],nx:=0,sz:=19 }
def aNX:Code:=cN (bN [1,1,0,2] (bB Tryz.f140))
def aNY (fu:Nat):=mD prog (aNW T0 R0 aG) fu [1,1,0,2] (bB Tryz.f140) (gI prog Tryz.f140)
abbrev bIm (fu:Nat) (x0:List Int) (n0:Nat) (v3:Int):=eV prog (aNW T0 R0 aG) fu aNX (aNY T0 R0 aG fu ) fu (some (aDA x0 n0 v3))
theorem bIn (fu:Nat) (a:List Int) (n:Nat):aS prog Tryz.f140 (aNW T0 R0 aG) fu [.s (dI a n)]=bIm T0 R0 aG fu a n (i64.wrap (8*(n:Int))):=by kernel_rfl
def S3 (v3:Int):St:={ tm:=[(3,.int .i64 v3)],hp:=[],nx:=0,sz:=19 }
theorem aYu {β:Type} (fu:Nat) (G:FG β) (H:FH β) (x0:List Int) (n0:Nat) (v3:Int):fV prog (aNW T0 R0 aG) fu aNX G H (aDA x0 n0 v3)=bif decide (0 < v3) then (R0 [.s (dI x0 n0),.int .i64 (i64.wrap (v3 - 1))]).bind λ t=>bif decide (aG t=0) then G (some (aDA x0 n0 (i64.wrap (v3 - 1)))) else H (Ex.exit 0) (some (S3 v3)) else H (Ex.exit 0) (some (S3 v3)):=by kernel_rfl
theorem aDB (fu:Nat) (v3:Int):aNY T0 R0 aG fu  (Ex.exit 0) (S3 v3)=some (AV.int .i64 v3):=by kernel_rfl
end
section
variable (T0:Type) (R0:FA T0) (aG:T0->List Int) (aO:T0->Nat) (T1:Type) (R1:FA T1) (aM:T1->Int) (T2:Type) (R2:FA T2) (bE:T2->Int) (T3:Type) (R3:FA T3) (bS:T3->List Int) (eX:T3->Nat)
def aNZ:Cg:=⟨⟨cV [(46,⟨R0,λ t=>AV.s (dI (aG t) (aO t))⟩),(47,⟨R1,λ t=>AV.int .i64 (aM t)⟩),(48,⟨R2,λ t=>AV.int .i64 (bE t)⟩),(49,⟨R3,λ t=>AV.s (dI (bS t) (eX t))⟩)],[],cX⟩,[(4,[0,1,6,7,8],[6,7])]⟩
def M2 (x0:List Int) (n0:Nat) (x1:List Int) (n1:Nat) (x6:List Int) (n6:Nat) (x7:List Int) (n7:Nat) (v8:Int):St:={ tm:=[(0,.s (dI x0 n0)),(1,.s (dI x1 n1)),(6,.s (dI x6 n6)),(7,.s (dI x7 n7)),(8,.int .i64 v8)],hp:=[],nx:=0,sz:=42 }
def aN0:Code:=cN (bN [1,1,0,1,2] (bB Tryz.f17))
def aN1 (fu:Nat):=mD prog (aNZ T0 R0 aG aO T1 R1 aM T2 R2 bE T3 R3 bS eX) fu [1,1,0,1,2] (bB Tryz.f17) (gI prog Tryz.f17)
abbrev bIo (fu:Nat) (x0:List Int) (n0:Nat) (x1:List Int) (n1:Nat) (x6:List Int) (n6:Nat) (x7:List Int) (n7:Nat) (v8:Int):=eV prog (aNZ T0 R0 aG aO T1 R1 aM T2 R2 bE T3 R3 bS eX) fu aN0 (aN1 T0 R0 aG aO T1 R1 aM T2 R2 bE T3 R3 bS eX fu ) fu (some (M2 x0 n0 x1 n1 x6 n6 x7 n7 v8))
theorem bIp (fu:Nat) (a:List Int) (n:Nat) (b:List Int) (m:Nat):aS prog Tryz.f17 (aNZ T0 R0 aG aO T1 R1 aM T2 R2 bE T3 R3 bS eX) fu [.s (dI a n),.s (dI b m)]=bIo T0 R0 aG aO T1 R1 aM T2 R2 bE T3 R3 bS eX fu a n b m [] 0 [] 0 (i64.wrap (i64.wrap (8*(n:Int)) - 1)):=by kernel_rfl
def aDC (x6:List Int) (n6:Nat) (x7:List Int) (n7:Nat):St:={ tm:=[(6,.s (dI x6 n6)),(7,.s (dI x7 n7))],hp:=[],nx:=0,sz:=42 }
theorem aYv {β:Type} (fu:Nat) (G:FG β) (H:FH β) (x0:List Int) (n0:Nat) (x1:List Int) (n1:Nat) (x6:List Int) (n6:Nat) (x7:List Int) (n7:Nat) (v8:Int):fV prog (aNZ T0 R0 aG aO T1 R1 aM T2 R2 bE T3 R3 bS eX) fu aN0 G H (M2 x0 n0 x1 n1 x6 n6 x7 n7 v8)=bif decide (0 <= v8) then (R0 [.s (dI x7 n7),.s (dI x7 n7)]).bind λ t=>(R1 [.s (dI x0 n0),.int .i64 v8]).bind λ bY=>bif decide (aM bY=1) then (R0 [.s (dI (aG t) (aO t)),.s (dI [1] 1)]).bind λ t=>(R0 [.s (dI x6 n6),.s (dI x6 n6)]).bind λ cJ=>(R2 [.s (dI (aG t) (aO t)),.s (dI x1 n1)]).bind λ fF=>bif decide (0 <= bE fF) then (R3 [.s (dI (aG t) (aO t)),.s (dI x1 n1)]).bind λ t=>(R0 [.s (dI (aG cJ) (aO cJ)),.s (dI [1] 1)]).bind λ gA=>G (some (M2 x0 n0 x1 n1 (aG gA) (aO gA) (bS t) (eX t) (i64.wrap (v8 - 1)))) else G (some (M2 x0 n0 x1 n1 (aG cJ) (aO cJ) (aG t) (aO t) (i64.wrap (v8 - 1)))) else (R0 [.s (dI x6 n6),.s (dI x6 n6)]).bind λ cJ=>(R2 [.s (dI (aG t) (aO t)),.s (dI x1 n1)]).bind λ fF=>bif decide (0 <= bE fF) then (R3 [.s (dI (aG t) (aO t)),.s (dI x1 n1)]).bind λ t=>(R0 [.s (dI (aG cJ) (aO cJ)),.s (dI [1] 1)]).bind λ gA=>G (some (M2 x0 n0 x1 n1 (aG gA) (aO gA) (bS t) (eX t) (i64.wrap (v8 - 1)))) else G (some (M2 x0 n0 x1 n1 (aG cJ) (aO cJ) (aG t) (aO t) (i64.wrap (v8 - 1)))) else H (Ex.exit 0) (some (aDC x6 n6 x7 n7)):=by kernel_rfl
theorem aVr (fu:Nat) (x6:List Int) (n6:Nat) (x7:List Int) (n7:Nat):aN1 T0 R0 aG aO T1 R1 aM T2 R2 bE T3 R3 bS eX fu  (Ex.exit 0) (aDC x6 n6 x7 n7)=some (AV.tup [.s (dI x6 n6),.s (dI x7 n7)]):=by kernel_rfl
end
section
variable (T0:Type) (R0:FA T0) (aG:T0->List Int) (aO:T0->Nat) (T1:Type) (R1:FA T1) (aM:T1->List Int) (bK:T1->Nat) (T2:Type) (R2:FA T2) (bE:T2->List Int) (bU:T2->Nat)
def aN2:Cg:=⟨⟨cV [(130,⟨R0,λ t=>AV.s (dI (aG t) (aO t))⟩),(93,⟨R1,λ t=>AV.s (dI (aM t) (bK t))⟩),(46,⟨R2,λ t=>AV.s (dI (bE t) (bU t))⟩)],[],cX⟩,[(6,[0,4,5],[2,3,4])]⟩
def aDD (s0:Str) (x4:List Int) (n4:Nat) (v5:Int):St:={ tm:=[(0,.str s0),(4,.s (dI x4 n4)),(5,.int .i64 v5)],hp:=[],nx:=0,sz:=46 }
def aN3:Code:=cN (bN [1,1,1,0,1,2] (bB Tryz.f87))
def aDE (fu:Nat):=mD prog (aN2 T0 R0 aG aO T1 R1 aM bK T2 R2 bE bU) fu [1,1,1,0,1,2] (bB Tryz.f87) (gI prog Tryz.f87)
abbrev aYw (fu:Nat) (s0:Str) (x4:List Int) (n4:Nat) (v5:Int):=eV prog (aN2 T0 R0 aG aO T1 R1 aM bK T2 R2 bE bU) fu aN3 (aDE T0 R0 aG aO T1 R1 aM bK T2 R2 bE bU fu ) fu (some (aDD s0 x4 n4 v5))
theorem bIq (fu:Nat) (s:Str):aS prog Tryz.f87 (aN2 T0 R0 aG aO T1 R1 aM bK T2 R2 bE bU) fu [.str s]=bif decide ((↑(List.length s):Int)=0) then some (AV.tup [.s (dI [] 0),.s (.pl (.bool false))]) else bif decide (1 < (↑(List.length s):Int)) then bif decide ((0:Int) <= 0 /\ 0 < (↑(List.length s):Int)) then bif decide ((↑(List.getD s (Int.toNat 0) (0:UInt8)).toNat:Int)=48) then some (AV.tup [.s (dI [] 0),.s (.pl (.bool false))]) else aYw T0 R0 aG aO T1 R1 aM bK T2 R2 bE bU fu s [] 0 0 else none else aYw T0 R0 aG aO T1 R1 aM bK T2 R2 bE bU fu s [] 0 0:=by kernel_rfl
def Zp (x2:List Int) (n2:Nat) (b3:Bool) (x4:List Int) (n4:Nat):St:={ tm:=[(2,.s (dI x2 n2)),(3,.bool b3),(4,.s (dI x4 n4))],hp:=[],nx:=0,sz:=46 }
def aDF (x4:List Int) (n4:Nat):St:={ tm:=[(2,.s SV.junk),(3,.s SV.junk),(4,.s (dI x4 n4))],hp:=[],nx:=0,sz:=46 }
theorem aYx {β:Type} (fu:Nat) (G:FG β) (H:FH β) (s0:Str) (x4:List Int) (n4:Nat) (v5:Int):fV prog (aN2 T0 R0 aG aO T1 R1 aM bK T2 R2 bE bU) fu aN3 G H (aDD s0 x4 n4 v5)=bif decide (v5 < (↑(List.length s0):Int)) then bif decide (0 <= v5 /\ v5 < (↑(List.length s0):Int)) then bif decide ((↑(List.getD s0 v5.toNat (0:UInt8)).toNat:Int) < 48) then H Ex.ret (some (Zp [] 0 false x4 n4)) else bif decide (0 <= v5 /\ v5 < (↑(List.length s0):Int)) then bif decide (57 < (↑(List.getD s0 v5.toNat (0:UInt8)).toNat:Int)) then H Ex.ret (some (Zp [] 0 false x4 n4)) else (R0 [.s (dI x4 n4),.s (dI [10] 1)]).bind λ t=>bif decide (0 <= v5 /\ v5 < (↑(List.length s0):Int)) then (R1 [.int .u64 (u64.wrap (u8.wrap ((↑(List.getD s0 v5.toNat (0:UInt8)).toNat:Int) - 48)))]).bind λ bY=>(R2 [.s (dI (aG t) (aO t)),.s (dI (aM bY) (bK bY))]).bind λ t=>G (some (aDD s0 (bE t) (bU t) (i64.wrap (v5+1)))) else none else none else none else H (Ex.exit 0) (some (aDF x4 n4)):=by kernel_rfl
theorem aN4 (fu:Nat) (x2:List Int) (n2:Nat) (b3:Bool) (x4:List Int) (n4:Nat):aDE T0 R0 aG aO T1 R1 aM bK T2 R2 bE bU fu  Ex.ret (Zp x2 n2 b3 x4 n4)=some (AV.tup [.s (dI x2 n2),.s (.pl (.bool b3))]):=by kernel_rfl
theorem aVs (fu:Nat) (x4:List Int) (n4:Nat):aDE T0 R0 aG aO T1 R1 aM bK T2 R2 bE bU fu  (Ex.exit 0) (aDF x4 n4)=some (AV.tup [.s (dI x4 n4),.s (.pl (.bool true))]):=by kernel_rfl
end
theorem DH (a b:Nat):Nat.ble a b=decide (a <= b):=by
 cases h:Nat.ble a b
 ·rw [aJ λ hle=>by rw [lY hle] at h; cases h]
 ·rw [aD (dA h)]
theorem xZ (a b:Nat):Nat.beq a b=decide (a=b):=by
 cases h:Nat.beq a b
 ·rw [aJ λ e=>by subst e; simp at h]
 ·rw [aD (aT h)]
theorem qE {a:List Int} {n:Nat} (h:NT a n=true):∃ x,a=nb x /\ n=(nb x).length /\ n <= 1048576 /\ vB a=x:=by
 simp only [NT,aW,DH,xZ,bJ] at h;obtain ⟨⟨⟨h1,h2⟩,h3⟩,h4⟩:=h;have e:=bGO h1 h2;exact ⟨vB a,e.symm,by rw [e]; exact h3,h4,rfl⟩
theorem oX {x:Nat} (h:(nb x).length <= 1048576):NT (nb x) (nb x).length=true:=by
 simp only [NT,EK,Kt,oH,mO,DH,bJ]; exact h
theorem M3 {T:Type} {F:Nat->T} {args:List AV} {t:T} (h:N8 F args=some t):∃ x,args=[eN x] /\ (nb x).length <= 1048576 /\ t=F x:=by
 unfold N8 at h;split at h
 ·rename_i a n;obtain ⟨h1,h2⟩:=bA h;obtain ⟨x,rfl,rfl,h3,h4⟩:=qE h1;cases h2;exact ⟨x,rfl,h3,by rw [h4]⟩
 ·cases h
theorem qF {T:Type} {F:Nat->Nat->T} {C:Nat->Nat->Bool} {args:List AV} {t:T} (h:A2 F C args=some t):∃ x y,args=[eN x,eN y] /\ (nb x).length <= 1048576 /\ (nb y).length <= 1048576 /\ C x y=true /\ t=F x y:=by
 unfold A2 at h;split at h
 ·rename_i a n b m;obtain ⟨h1,h2⟩:=bA h;simp only [aW] at h1;obtain ⟨x,rfl,rfl,h3,h4⟩:=qE h1.1.1;obtain ⟨y,rfl,rfl,h5,h6⟩:=qE h1.1.2;cases h2;have hc:=h1.2;rw [h4,h6] at hc;exact ⟨x,y,rfl,h3,h5,hc,by rw [h4,h6]⟩
 ·cases h
theorem Zq {T:Type} (F:Nat->T) {x:Nat} (h:(nb x).length <= 1048576):N8 F [eN x]=some (F x):=by
 show cond (NT (nb x) (nb x).length) (some (F (vB (nb x)))) none=_;rw [oX h,gN]; rfl
theorem Al {T:Type} (F:Nat->Nat->T) (C:Nat->Nat->Bool) {x y:Nat} (h:(nb x).length <= 1048576) (h2:(nb y).length <= 1048576) (hc:C x y=true):A2 F C [eN x,eN y]=some (F x y):=by
 show cond (NT (nb x) (nb x).length && NT (nb y) (nb y).length && C (vB (nb x)) (vB (nb y))) (some (F (vB (nb x)) (vB (nb y)))) none=_;rw [oX h,oX h2,gN,gN,hc]; rfl
theorem I3:∀ (l:List Int) (i:Nat),cK l <= i->i < l.length->l.getD i 0=0:=by
 intro l
 induction l with
 | nil=>intro i _ h; simp at h
 | cons x r ih=>
  intro i h hl;simp only [cK] at h;simp only [fY] at hl;cases ht:cK r with
  | zero=>
   rw [ht] at h;simp only [] at h;cases i with
   | zero=>
    by_cases hx:x=0
    ·simp [hx]
    ·simp [hx] at h
   | succ i=>rw [Ey]; exact ih i (by omega) (by omega)
  | succ n=>
   rw [ht] at h;simp only [] at h;cases i with
   | zero=>omega
   | succ i=>rw [Ey]; exact ih i (by omega) (by omega)
theorem Am:∀ (l:List Int) (k:Nat),cK l=k+1->l.getD k 0 ≠ 0:=by
 intro l
 induction l with
 | nil=>intro k h; simp [cK] at h
 | cons x r ih=>
  intro k h;simp only [cK] at h;cases ht:cK r with
  | zero=>
   rw [ht] at h;simp only [] at h;by_cases hx:x=0
   ·simp [hx] at h
   ·rw [aV hx] at h;have:k=0:=by omega
    subst this; simpa using hx
  | succ n=>
   rw [ht] at h;simp only [] at h;have:k=n+1:=by omega
   subst this;rw [Ey];exact ih n ht
theorem aVt (xs:List Int) (hl:xs.length <= 1099511627776) (fu:Nat):∀ (d n k:Nat),k=cK xs+d->k <= xs.length->d < n ->
  eV prog Zn fu aDk (We fu) n (some (Wd xs xs.length (k:Int)))=some (.s (.dat (.ints .i64 (nD xs)) (cK xs) 1)):=by
 intro d;have lQ:∀ n k:Nat,k=cK xs->0 < n->eV prog Zn fu aDk (We fu) n (some (Wd xs xs.length (k:Int)))=some (.s (.dat (.ints .i64 (nD xs)) (cK xs) 1)):=by
  intro n k hk hn;obtain ⟨n,rfl⟩:=aP (by omega:n ≠ 0);have ht:=rF xs;have last:We fu (Ex.exit 0) (KD xs xs.length (k:Int))=some (.s (.dat (.ints .i64 (nD xs)) (cK xs) 1)):=by
   rw [aVj,aD (by omega),aB,Int.sub_zero,bD,gY,gL,hk]; rfl
  rw [aF,aYo];by_cases h0:k=0
  ·rw [aJ (by omega),aE,aR,last]
  ·obtain ⟨q,rfl⟩:=aP h0;have hne:=Am xs q hk.symm;rw [aD (by omega),aB,bW (by omega) (by omega),aD (by omega),aB,show ((q.succ:Nat):Int) - 1=(q:Int) by omega,bD,aJ hne,aE,aR,last]
 induction d with
 | zero=>intro n k hk _ hn; exact lQ n k (by omega) hn
 | succ d ih=>
  intro n k hk hkl hn;obtain ⟨n,rfl⟩:=aP (by omega:n ≠ 0);have hz:=I3 xs (k - 1) (by omega) (by omega);rw [aF,aYo,aD (by omega),aB,bW (by omega) (by omega),aD (by omega),aB,show (k:Int) - 1=((k - 1:Nat):Int) by omega,bD,aD hz,aB];exact ih n (k - 1) (by omega) (by omega) (by omega)
theorem aDG {xs:List Int} (h:kX xs=true):AV.s (.dat (.ints .i64 (nD xs)) (cK xs) 1)=eN (vB xs):=by
 simp only [eN];rw [aAL h,uK]
theorem KF:CallOk prog 51 aIw:=by
 refine pC (g:=Zn) (fu:=λ args=>match args with | [.c (.s (.dat (.ints .i64 a) n 1))]=>n+1 | _=>0) kD ⟨aH,λ _ _ h=>by cases h⟩ Tryz.func51 (by kernel_rfl) ?_;intro args t ht;unfold aIw at ht;simp only at ht;split at ht
 ·rename_i a n;obtain ⟨h1,h2⟩:=bA ht;simp only [aW,DH,xZ,bJ] at h1;obtain ⟨⟨h3,rfl⟩,h4⟩:=h1;cases h2;have:=rF a;refine (bH3 _ _ _).trans ((aVt a (by omega) _ (a.length - cK a) _ a.length (by omega) (by omega) (by show a.length - cK a < a.length+1; omega)).trans ?_);rw [aDG h3]; rfl
 ·cases ht
theorem aN5 (xs:List Int) (hl:xs.length <= 1099511627776) (fu:Nat) (ty m:Nat):∀ (d n k:Nat),k=cK xs+d->k <= xs.length->d < n ->
  eV prog Mz fu Sz (M1 fu xs.length) n (some (M0 xs.length (k:Int) xs.length ty m xs))=some (.s (.sub 0 0 (cK xs) 1),.ints .i64 xs):=by
 intro d;have lQ:∀ n k:Nat,k=cK xs->0 < n->eV prog Mz fu Sz (M1 fu xs.length) n (some (M0 xs.length (k:Int) xs.length ty m xs))=some (.s (.sub 0 0 (cK xs) 1),.ints .i64 xs):=by
  intro n k hk hn;obtain ⟨n,rfl⟩:=aP (by omega:n ≠ 0);have ht:=rF xs;have last:M1 fu xs.length (Ex.exit 0) (G4 xs.length (k:Int) xs.length ty m xs)=some (.s (.sub 0 0 (cK xs) 1),.ints .i64 xs):=by
   rw [aNJ,aD (by omega),aB,Int.sub_zero,bD,oH,hk]; rfl
  rw [aF,aNI];by_cases h0:k=0
  ·rw [aJ (by omega),aE,aR,last]
  ·obtain ⟨q,rfl⟩:=aP h0;have hne:=Am xs q hk.symm;rw [aD (by omega),aB,bW (by omega) (by omega),aD (by omega),aB,show ((q.succ:Nat):Int) - 1=(q:Int) by omega,bD,aJ hne,aE,aR,last]
 induction d with
 | zero=>intro n k hk _ hn; exact lQ n k (by omega) hn
 | succ d ih=>
  intro n k hk hkl hn;obtain ⟨n,rfl⟩:=aP (by omega:n ≠ 0);have hz:=I3 xs (k - 1) (by omega) (by omega);rw [aF,aNI,aD (by omega),aB,bW (by omega) (by omega),aD (by omega),aB,show (k:Int) - 1=((k - 1:Nat):Int) by omega,bD,aD hz,aB];exact ih n (k - 1) (by omega) (by omega) (by omega)
theorem G5:CD prog 51 (Fu HV):=by
 refine aJX (g:=Mz) (fu:=λ _ n=>n+1) kD ⟨aH,λ _ _ h=>by cases h⟩ Tryz.func51 (by kernel_rfl) ?_;intro ty r len esz rest av r' hl hE;unfold HV at hE;split at hE
 ·rename_i xs;simp only [qM,Av,bJ] at hE;obtain ⟨hn,rfl,rfl⟩:=hE;have hl:xs.length=len:=by simpa [TRow.length] using hl
  subst hl;have:=rF xs;exact (bFY _ _ _ _).trans (aN5 xs hn _ ty _ (xs.length - cK xs) _ xs.length (by omega) (by omega) (by omega))
 ·cases hE
theorem DI (xs:List Int) (h:kX xs=true):AV.s (SV.dat (TRow.ints i64 (List.take (cK xs*1) (List.drop 0 xs))) (cK xs) 1)=eN (vB xs):=by
 rw [gY,gL]; exact aDG h
abbrev aYy:Cg:=aNK (Nat) y8 (λ t=>nb t) (λ t=>(nb t).length)
theorem bFZ:CfOk prog aYy.c:=⟨aA KF <| aH,zE G5 <| C2⟩
theorem S4 (s:Str):kX (s.map sE)=true:=by
 induction s with
 | nil=>rfl
 | cons c r ih=>
  have:=c.toNat_lt;simp only [mR,kX,ih,H9,sE,bJ]; omega
theorem aGj {α:Type} (l:List α) (i:Nat) (d:α) (h:i < l.length):l.drop i=l.getD i d :: l.drop (i+1):=by
 rw [NB h];simp [List.getD,h]
theorem CX {α:Type} (l:List α) (i:Nat) (d:α) (h:i < l.length):l.take (i+1)=l.take i++[l.getD i d]:=by
 rw [List.take_succ_eq_append_getElem h];simp [List.getD,h]
theorem aVu (s:Str) (hl:s.length <= 1048576) (fu:Nat):∀ (d n i m:Nat),i+d=s.length->d < n ->
  eV prog aYy fu aNL (aNM _ y8 (λ t=>nb t) (λ t=>(nb t).length) fu) n (some (aDl s i (i:Int) m ((s.take i).map sE)))=some (eN (vS s)):=by
 intro d
 induction d with
 | zero=>
  intro n i m hi hn;obtain ⟨n,rfl⟩:=aP (by omega:n ≠ 0);have e:i=s.length:=by omega
  subst e;rw [aF,aYp,aJ (by omega),aE,aR,aVk,aD (by omega),aB,Ar,DI _ (S4 s)]; rfl
 | succ d ih=>
  intro n i m hi hn;obtain ⟨n,rfl⟩:=aP (by omega:n ≠ 0);have hb:=(s.getD i 0).toNat_lt;rw [aF,aYp,aD (by omega),aB,aD (by omega),aB,aD (by omega),aB,bD,bW (by omega) (by omega),bW (by omega) (by omega)];have:=ih n (i+1) ((i+1)*1) (by omega) (by omega);rw [CX s i 0 (by omega),rP] at this;exact this
theorem Wh:CallOk prog 19 QC:=by
 refine aZ (fu:=λ args=>match args with | [.c (.s (.pl (.str s)))]=>s.length+1 | _=>0) bFZ Tryz.func19 ?_;intro args t ht;unfold QC at ht;simp only at ht;split at ht
 ·rename_i s;obtain ⟨h1,h2⟩:=bA ht;have h1:=vA h1;cases h2;exact (bH5 _ _ _ _ _ _).trans (aVu s h1 _ s.length _ 0 0 (by omega) (lH _))
 ·cases ht
theorem PV {s:Str} (h:s.length <= 1048576):BW [.str s]=some (vS s):=by
 simp only [BW,QC,h,qP,aB]
theorem aVv (fu:Nat):∀ (d n v m:Nat) (xs:List Int),v < 256 ^ d->v < 18446744073709551616->d < n->xs.length+d <= 1000000 ->
  eV prog aGg fu aNN (aNO fu) n (some (aDn (v:Int) xs.length m xs))=some (.s (.dat (.ints .i64 (xs++nbF d v)) (xs.length+(nbF d v).length) 1)):=by
 intro d
 induction d with
 | zero=>
  intro n v m xs hv h64 hn hl;obtain ⟨n,rfl⟩:=aP (by omega:n ≠ 0);have:v=0:=by simpa using hv
  subst this;rw [aF,aYq,aJ (by omega),aE,aR,aDp];simp [nbF]
 | succ d ih=>
  intro n v m xs hv h64 hn hl;obtain ⟨n,rfl⟩:=aP (by omega:n ≠ 0);rw [aF,aYq];by_cases h0:v=0
  ·subst h0;rw [aJ (by omega),aE,aR,aDp];simp [nbF]
  ·rw [aD (by omega),aB,aD (by omega),aB];rw [show ((v:Nat):Int).tdiv 256=((v / 256:Nat):Int) by rw [qH (by omega)]; omega,show ((v:Nat):Int).tmod 256=((v%256:Nat):Int) by rw [mQ (by omega)]; omega];rw [Zf (by omega) (by omega),bW (by omega) (by omega)];have:=ih n (v / 256) ((xs.length+1)*1) (xs++[((v%256:Nat):Int)]) (by rw [bM] at hv; omega) (by omega) (by omega) (by simp; omega);rw [show (xs++[((v%256:Nat):Int)]).length=xs.length+1 by simp] at this;refine this.trans ?_;simp only [nbF,h0,oK,iO,KH,fY];rw [show xs.length+1+(nbF d (v / 256)).length=xs.length+((nbF d (v / 256)).length+1) by omega]
theorem bF0 {d v:Nat} (h:v < 256 ^ d):nbF d v=nb v:=by
 have:=aIu (lo d v) d (vX d v) (by rw [Fa]; exact bH _ (jF (by decide)));rw [Fa,aY h] at this;rw [this,aAM h]
theorem I4:CallOk prog 93 Cx:=by
 refine pC (g:=aGg) (fu:=λ _=>9) kD ⟨aH,λ _ _ h=>by cases h⟩ Tryz.func93 (by kernel_rfl) ?_;intro args t ht;unfold Cx at ht;simp only at ht;split at ht
 ·rename_i v;obtain ⟨h1,h2⟩:=bA ht;cases h2;simp only [iV,bJ] at h1;obtain ⟨k,rfl⟩:=bZ h1.1;have hk:k < 256 ^ 8:=by omega
  refine (bH7 _ _).trans ((aVv 9 8 9 k 0 [] hk (by omega) (by decide) (by decide)).trans ?_);rw [bF0 hk,bD];simp only [lF,TB,bT]; rfl
 ·cases ht
theorem An {k:Nat} (h:k < 18446744073709551616):y9 [.int .u64 (k:Int)]=some k:=by
 have:iV (k:Int)=true:=by simp [iV]; omega
 simp only [y9,Cx,this,aB,bD]
theorem aVw (x y:Nat) (h:(nb x).length=(nb y).length) (hl:(nb x).length <= 1048576) (fu:Nat):∀ (k n:Nat),k <= (nb x).length->k < n ->
  eV prog aGh fu aNP (aDr fu) n (some (aDq (nb x) (nb x).length (nb y) (nb y).length ((k:Int) - 1)))=some (.int .i64 (tV (x%256 ^ k) (y%256 ^ k))):=by
 intro k
 induction k with
 | zero=>
  intro n _ hn;obtain ⟨n,rfl⟩:=aP (by omega:n ≠ 0);rw [aF,aYr,aJ (by omega),aE,aR,aVl];simp [tV,qK]
 | succ k ih=>
  intro n hk hn;obtain ⟨n,rfl⟩:=aP (by omega:n ≠ 0);rw [show (((k+1:Nat):Int) - 1)=(k:Int) by omega];rw [aF,aYr,aD (by omega),aB,aD (by omega),aB,aD (by omega),aB,aB,aB,bD,CU x k (by omega),CU y k (by omega),aGc];by_cases h1:dg x k < dg y k
  ·rw [aD (by omega:((dg x k:Nat):Int) < (dg y k:Nat)),aB,aR,aNQ,aD h1]; rfl
  ·rw [aJ (by omega:¬ ((dg x k:Nat):Int) < (dg y k:Nat)),aE,aJ h1,aE];by_cases h2:dg y k < dg x k
   ·rw [aD (by omega:((dg y k:Nat):Int) < (dg x k:Nat)),aB,aR,aNQ,aD h2]; rfl
   ·rw [aJ (by omega:¬ ((dg y k:Nat):Int) < (dg x k:Nat)),aE,aJ h2,aE,bW (by omega) (by omega)];exact ih n (by omega) (by omega)
theorem DJ:CallOk prog 48 aAN:=by
 refine pC (g:=aGh) (fu:=λ args=>match args with | [.c (.s (.dat _ n _)),_]=>n+1 | _=>0) kD ⟨aH,λ _ _ h=>by cases h⟩ Tryz.func48 (by kernel_rfl) ?_;intro args t ht;obtain ⟨x,y,rfl,hx,hy,_,rfl⟩:=qF (F:=tV) (C:=λ _ _=>true) ht;refine (bH9 _ _ _ _ _).trans ?_;show _=some (AV.int .i64 (tV x y));by_cases h:(nb x).length=(nb y).length
 ·rw [aD (by omega),iD,aE,bW (by omega) (by omega)];refine (aVw x y h hx _ (nb x).length _ (bX _) (lH _)).trans ?_;rw [aY (uE x),h,aY (uE y)]
 ·rw [aJ (by omega),jB,aB];by_cases h2:(nb x).length < (nb y).length
  ·have:=aDj h2;rw [aD (by omega),aB]; simp [tV,this]
  ·have:=aDj (x:=y) (y:=x) (by omega);have h3:¬ x < y:=by omega
   rw [aJ (by omega),aE]; simp [tV,this,h3]
theorem oY {x y:Nat} (h:(nb x).length <= 1048576) (h2:(nb y).length <= 1048576):pN [eN x,eN y]=some (tV x y):=Al tV (λ _ _=>true) h h2 rfl
abbrev aN6:Cg:=aNR (Nat) y8 (λ t=>nb t) (λ t=>(nb t).length)
theorem bF1:CfOk prog aN6.c:=⟨aA KF <| aH,zE G5 <| C2⟩
def G6 (x y i c:Nat):Nat:=c+dg x i+dg y i
theorem aYz {x:Nat} {lx:List Int} (dx:∀ i,lx.length <= i->x / 256 ^ i=0) (i:Nat) (h:lx.length <= i):dg x i=0:=by rw [dg,dx i h]
theorem aDH {lx:List Int} {β:Type} (x y i c m:Nat) (gx:∀ i,i < lx.length->lx.getD i 0=((dg x i:Nat):Int)) (dx:∀ i,lx.length <= i->x / 256 ^ i=0) (hx:lx.length <= 1048576) (hy:(nb y).length <= 1048576) (hc:c <= 1) (hi:i <= 4194304) (xs:List Int) (fu:Nat) (G:FG β) (H:FH β) :
  fV prog aN6 fu aDt G H (zV lx lx.length (nb y) (nb y).length i (c:Int) (i:Int) m xs) =
   if i < lx.length ∨ i < (nb y).length ∨ 0 < c then G (some (zV lx lx.length (nb y) (nb y).length (i+1) ((G6 x y i c / 256:Nat):Int) ((i+1:Nat):Int) ((i+1)*1) (xs++[((G6 x y i c%256:Nat):Int)])))
   else H (.exit 0) (some (KE i m xs)):=by
 have hdx:=xY x i;have hdy:=xY y i;have q:∀ s:Nat,s < 1000->i64.wrap (((s:Nat):Int).tdiv 256)=((s / 256:Nat):Int):=λ s hs=>by
  rw [qH (by omega),bW (by omega) (by omega)]; omega
 have r:∀ s:Nat,((s:Nat):Int).tmod 256=((s%256:Nat):Int):=λ s=>by
  rw [mQ (by omega)]; omega
 have wi:i64.wrap ((i:Int)+1)=((i+1:Nat):Int):=by rw [bW (by omega) (by omega)]; omega
 rw [bIc];by_cases h1:i < lx.length
 ·rw [aX (.inl h1),aD (by omega:(i:Int) < (lx.length:Int)),aB,aB,aD (by omega),aB,bD,gx i h1];have e1:i64.wrap ((c:Int)+(dg x i:Nat))=((c+dg x i:Nat):Int):=by rw [bW (by omega) (by omega)]; omega
  rw [e1];by_cases h2:i < (nb y).length
  ·have e2:i64.wrap (((c+dg x i:Nat):Int)+(dg y i:Nat))=((G6 x y i c:Nat):Int):=by rw [bW (by omega) (by omega)]; simp only [G6]; omega
   rw [aD (by omega:(i:Int) < ((nb y).length:Int)),aB,aD (by omega),aB,aD (by omega),aB,CU y i h2,e2,q _ (by simp only [G6]; omega),r,wi]
  ·have e2:G6 x y i c=c+dg x i:=by rw [G6,DG y i (by omega)]; omega
   rw [aJ (by omega:¬ (i:Int) < ((nb y).length:Int)),aE,aD (by omega),aB,e2,q _ (by omega),r,wi]
 ·rw [aJ (by omega:¬ (i:Int) < (lx.length:Int)),aE,aE];have hx0:=aYz dx i (by omega);by_cases h2:i < (nb y).length
  ·have e2:i64.wrap ((c:Int)+(dg y i:Nat))=((G6 x y i c:Nat):Int):=by rw [bW (by omega) (by omega)]; simp only [G6,hx0]; omega
   rw [aX (.inr (.inl h2)),aD (by omega:(i:Int) < ((nb y).length:Int)),IA,aB,aB,aD (by omega),aB,aD (by omega),aB,bD,CU y i h2,e2,q _ (by simp only [G6]; omega),r,wi]
  ·have hy0:=DG y i (by omega);have e2:G6 x y i c=c:=by simp only [G6,hx0,hy0]; omega
   rw [aJ (by omega:¬ (i:Int) < ((nb y).length:Int)),Ep];by_cases h3:0 < c
   ·rw [aX (.inr (.inr h3)),aD (by omega),aB,aE,aD (by omega),aB,e2,q _ (by omega),r,wi]
   ·rw [aV (by omega),aJ (by omega),aE]
theorem aVx {lx:List Int} (x y:Nat) (gx:∀ i,i < lx.length->lx.getD i 0=((dg x i:Nat):Int)) (dx:∀ i,lx.length <= i->x / 256 ^ i=0) (hx:lx.length <= 1048576) (hy:(nb y).length <= 1048576) (fu:Nat):∀ (d n i c m:Nat) (xs:List Int),i+d=max lx.length (nb y).length+1->d < n->c <= 1->(max lx.length (nb y).length < i->c=0)->kX xs=true->xs.length=i->vB xs+256 ^ i*(c+x / 256 ^ i+y / 256 ^ i)=x+y ->
  eV prog aN6 fu aDt (aDu _ y8 (λ t=>nb t) (λ t=>(nb t).length) fu) n (some (zV lx lx.length (nb y) (nb y).length i (c:Int) (i:Int) m xs))=some (eN (x+y)):=by
 intro d;have last:∀ (i c m:Nat) (xs:List Int),lx.length <= i->(nb y).length <= i->i <= 4194304->c=0->kX xs=true->xs.length=i->vB xs+256 ^ i*(c+x / 256 ^ i+y / 256 ^ i)=x+y->aDu _ y8 (λ t=>nb t) (λ t=>(nb t).length) fu (.exit 0) (KE i m xs)=some (eN (x+y)):=by
  intro i c m xs h1 h2 h3 h4 hk hl he;subst h4;rw [aVm,aD (by omega),aB,DI xs hk];rw [dx i h1,G0 y i h2] at he;simp only [fP,u9] at he;rw [he]
 induction d with
 | zero=>
  intro n i c m xs hi hn hc h0 hk hl he;obtain ⟨n,rfl⟩:=aP (by omega:n ≠ 0);have hc0:=h0 (by omega);rw [aF,aDH x y i c m gx dx hx hy hc (by omega),aV (by omega),aR];exact last i c m xs (by omega) (by omega) (by omega) hc0 hk hl he
 | succ d ih=>
  intro n i c m xs hi hn hc h0 hk hl he;obtain ⟨n,rfl⟩:=aP (by omega:n ≠ 0);rw [aF,aDH x y i c m gx dx hx hy hc (by omega)];by_cases hs:i < lx.length ∨ i < (nb y).length ∨ 0 < c
  ·rw [aX hs];have hdx:=xY x i;have hdy:=xY y i;refine ih n (i+1) _ _ _ (by omega) (by omega) (by simp only [G6]; omega) ?_ (Wb hk (bH _ (by decide))) (by simp [hl]) ?_
   ·intro hgt;have a1:=aYz dx i (by omega);have a2:=DG y i (by omega);simp only [G6,a1,a2]; omega
   ·rw [Sx,hl,CW,CW,bM];exact aGd _ _ _ _ _ _ he
  ·rw [aV hs,aR];exact last i c m xs (by omega) (by omega) (by omega) (by omega) hk hl he
theorem bIr {a:List Int} (h:kX a=true):∀ i,i < a.length->a.getD i 0=((dg (vB a) i:Nat):Int):=λ i hi=>by
 have:=Cw a.length (vB a) i hi;rwa [Ks a h] at this
theorem bIs {a:List Int} (h:kX a=true):∀ i,a.length <= i->vB a / 256 ^ i=0:=λ i hi=>
 lG (dD (IR a h) (kM (by decide) hi))
theorem vP:CallOk prog 46 Fb:=by
 refine aZ (fu:=λ args=>match args with | [.c (.s (.dat _ n _)),.c (.s (.dat _ m _))]=>max n m+2 | _=>0) bF1 Tryz.func46 ?_;intro args t ht;unfold Fb aAO at ht;simp only at ht;split at ht
 ·rename_i a n b m;cases hc:(kX a && Nat.beq n a.length && Nat.ble n 1048576 && NT b m) with
  | false=>rw [hc] at ht; cases ht
  | true=>
  rw [hc] at ht;cases ht;simp only [aW] at hc;obtain ⟨⟨⟨h1,h2⟩,h3⟩,h4⟩:=hc;have h2:=aT h2;have h3:=dA h3;subst h2;obtain ⟨y,rfl,rfl,hy,ey⟩:=qE h4;rw [ey];refine (bIb _ _ _ _ _ _ _ _ _).trans ?_;exact aVx (lx:=a) (vB a) y (bIr h1) (bIs h1) h3 hy _ (max a.length (nb y).length+1) _ 0 0 0 [] (by omega) (lH _) (by omega) (by omega) rfl rfl (by simp [vB])
 ·cases ht
theorem jY {x y:Nat} (h:(nb x).length <= 1048576) (h2:(nb y).length <= 1048576):kY [eN x,eN y]=some (x+y):=by
 simp only [kY,Fb,aAO,eN];rw [EK,oH,lY h,oX h2,gN,gN]; rfl
theorem Wi {a:List Int} {y:Nat} (hb:kX a=true) (h:a.length <= 1048576) (h2:(nb y).length <= 1048576):kY [.s (.dat (.ints .i64 a) a.length 1),eN y]=some (vB a+y):=by
 simp only [kY,Fb,aAO,eN];rw [hb,oH,lY h,oX h2,gN]; rfl
abbrev aN7:Cg:=aNS (Nat) y8 (λ t=>nb t) (λ t=>(nb t).length)
theorem bF2:CfOk prog aN7.c:=⟨aA KF <| aH,zE G5 <| C2⟩
def Nr (x y i c:Nat):Int:=(dg x i:Int) - c - dg y i
def H6 (x y i c:Nat):Nat:=if Nr x y i c < 0 then 1 else 0
def Ns (x y i c:Nat):Nat:=(Nr x y i c+256*H6 x y i c).toNat
theorem PW (x y i c:Nat) (hc:c <= 1):Ns x y i c < 256 /\ H6 x y i c <= 1 /\ Ns x y i c+c+dg y i=dg x i+256*H6 x y i c:=by
 have hdx:=xY x i;have hdy:=xY y i;by_cases h:Nr x y i c < 0
 ·have e:H6 x y i c=1:=by rw [H6,aX h]
  rw [Ns,e]; simp only [Nr] at *; omega
 ·have e:H6 x y i c=0:=by rw [H6,aV h]
  rw [Ns,e]; simp only [Nr] at *; omega
theorem aDI {β:Type} (x y i c m:Nat) (hx:(nb x).length <= 1048576) (hy:(nb y).length <= 1048576) (hc:c <= 1) (hi:i <= 4194304) (xs:List Int) (fu:Nat) (G:FG β) (H:FH β) :
  fV prog aN7 fu aDv G H (BA (nb x) (nb x).length (nb y) (nb y).length i (c:Int) (i:Int) m xs) =
   if i < (nb x).length then G (some (BA (nb x) (nb x).length (nb y) (nb y).length (i+1) ((H6 x y i c:Nat):Int) ((i+1:Nat):Int) ((i+1)*1) (xs++[((Ns x y i c:Nat):Int)])))
   else H (.exit 0) (some (S0 i m xs)):=by
 have hdx:=xY x i;have hdy:=xY y i;obtain ⟨f1,f2,f3⟩:=PW x y i c hc;have wi:i64.wrap ((i:Int)+1)=((i+1:Nat):Int):=by rw [bW (by omega) (by omega)]; omega
 rw [bIf];by_cases h1:i < (nb x).length
 ·rw [aX h1,aD (by omega:(i:Int) < ((nb x).length:Int)),aB,aD (by omega),aB,bD,CU x i h1,bW (n:=((dg x i:Nat):Int) - (c:Int)) (by omega) (by omega)];have lQ:∀ s:Int,s=Nr x y i c->(cond (decide (s < 0)) (cond (decide (i+1 <= 1099511627776)) (G (some (BA (nb x) (nb x).length (nb y) (nb y).length (i+1) (1:Int) (i64.wrap ((i:Int)+1)) ((i+1)*1) (xs++[i64.wrap (s+256)])))) none)
    (cond (decide (i+1 <= 1099511627776)) (G (some (BA (nb x) (nb x).length (nb y) (nb y).length (i+1) (0:Int) (i64.wrap ((i:Int)+1)) ((i+1)*1) (xs++[s])))) none)) =
    G (some (BA (nb x) (nb x).length (nb y) (nb y).length (i+1) ((H6 x y i c:Nat):Int) ((i+1:Nat):Int) ((i+1)*1) (xs++[((Ns x y i c:Nat):Int)]))):=by
   intro s hs;rw [wi];by_cases hneg:s < 0
   ·have e1:H6 x y i c=1:=by simp only [H6]; rw [aX (by omega)]
    have e2:i64.wrap (s+256)=((Ns x y i c:Nat):Int):=by
     rw [bW (by simp only [Nr] at hs; omega) (by omega),Ns,e1]; simp only [Nr] at *; omega
    rw [aD hneg,aB,aD (by omega),aB,e1,e2]; rfl
   ·have e1:H6 x y i c=0:=by simp only [H6]; rw [aV (by omega)]
    have e2:s=((Ns x y i c:Nat):Int):=by rw [Ns,e1]; simp only [Nr] at *; omega
    rw [aJ hneg,aE,aD (by omega),aB,e1,<-e2]; rfl
  by_cases h2:i < (nb y).length
  ·rw [aD (by omega:(i:Int) < ((nb y).length:Int)),aB,aD (by omega),aB,CU y i h2,bW (n:=((dg x i:Nat):Int) - (c:Int) - (dg y i:Nat)) (by omega) (by omega)];exact lQ _ rfl
  ·have hy0:=DG y i (by omega);rw [aJ (by omega:¬ (i:Int) < ((nb y).length:Int)),aE];exact lQ _ (by simp only [Nr,hy0]; omega)
 ·rw [aV h1,aJ (by omega),aE]
theorem aVy (x y:Nat) (hle:y <= x) (hx:(nb x).length <= 1048576) (hy:(nb y).length <= 1048576) (fu:Nat):∀ (d n i c m:Nat) (xs:List Int),i+d=(nb x).length->d < n->c <= 1->kX xs=true->xs.length=i->vB xs+y+256 ^ i*(x / 256 ^ i)=x+256 ^ i*(y / 256 ^ i+c) ->
  eV prog aN7 fu aDv (aNT _ y8 (λ t=>nb t) (λ t=>(nb t).length) fu) n (some (BA (nb x) (nb x).length (nb y) (nb y).length i (c:Int) (i:Int) m xs))=some (eN (x - y)):=by
 intro d
 induction d with
 | zero=>
  intro n i c m xs hi hn hc hk hl he;obtain ⟨n,rfl⟩:=aP (by omega:n ≠ 0);rw [aF,aDI x y i c m hx hy hc (by omega),aV (by omega),aR,aVn,aD (by omega),aB,DI xs hk];have hxl:=uE x;have hlt:=IR xs hk;rw [hl] at hlt;have e1:x / 256 ^ i=0:=G0 x i (by omega);have e2:y / 256 ^ i=0:=lG (jS hle (by rw [show i=(nb x).length by omega]; exact hxl));rw [e1,e2] at he;have hc0:c=0:=by
   rcases u7 c 1 with h | h
   ·omega
   ·have:c=1:=by omega
    subst this;simp only [u9,fP,bT,gY] at he;have hx2:x < 256 ^ i:=by rw [show i=(nb x).length by omega]; exact hxl
    omega
  subst hc0;simp only [u9,fP] at he;rw [show x - y=vB xs by omega]
 | succ d ih=>
  intro n i c m xs hi hn hc hk hl he;obtain ⟨n,rfl⟩:=aP (by omega:n ≠ 0);obtain ⟨f1,f2,f3⟩:=PW x y i c hc;rw [aF,aDI x y i c m hx hy hc (by omega),aX (by omega)];refine ih n (i+1) _ _ _ (by omega) (by omega) f2 (Wb hk f1) (by simp [hl]) ?_;rw [Sx,hl,CW,CW,bM];exact aGe _ _ _ _ _ _ _ _ _ he f3
theorem zW:CallOk prog 49 aAP:=by
 refine aZ (fu:=λ args=>match args with | [.c (.s (.dat _ n _)),_]=>n+1 | _=>0) bF2 Tryz.func49 ?_;intro args t ht;obtain ⟨x,y,rfl,hx,hy,hc,rfl⟩:=qF (F:=λ a b=>a - b) (C:=λ a b=>Nat.ble b a) ht;refine (bIe _ _ _ _ _ _ _ _ _).trans ?_;exact aVy x y (dA hc) hx hy _ (nb x).length _ 0 0 0 [] (by omega) (lH _) (by omega) rfl rfl (by simp [vB]; omega)
theorem rO {x y:Nat} (h:(nb x).length <= 1048576) (h2:(nb y).length <= 1048576) (hle:y <= x):rY [eN x,eN y]=some (x - y):=Al (λ a b=>a - b) (λ a b=>Nat.ble b a) h h2 (lY hle)
abbrev PX:Cg:=S1 (Nat) y8 (λ t=>nb t) (λ t=>(nb t).length)
theorem bF3:CfOk prog PX.c:=⟨aA KF <| aH,zE G5 <| C2⟩
def Nt (o:List Int) (x y i j c:Nat):Nat:=(o.getD (i+j) 0).toNat+c+dg x i*dg y j
theorem aDJ {β:Type} (x y i j c m L:Nat) (hx:(nb x).length <= 1048576) (hy:(nb y).length <= 1048576) (hi:i < (nb x).length) (hc:c <= 255) (hj:j <= 1048577) (o:List Int) (hk:kX o=true) (hL:L=o.length) (hb:j < (nb y).length ∨ 0 < c->i+j < L) (fu:Nat) (G:FG β) (H:FH β) :
  fV prog PX fu Wg G H (I0 (nb x) (nb x).length (nb y) (nb y).length L (i:Int) (c:Int) (j:Int) m o) =
   if j < (nb y).length ∨ 0 < c then G (some (I0 (nb x) (nb x).length (nb y) (nb y).length L (i:Int) ((Nt o x y i j c / 256:Nat):Int) ((j+1:Nat):Int) m (o.set (i+j) ((Nt o x y i j c%256:Nat):Int))))
   else H (.exit 2) (some (S2 (nb x) (nb x).length (nb y) (nb y).length L (i:Int) m o)):=by
 have hdx:=xY x i;have hdy:=xY y j;have ho:=My hk (i+j);have hmul:dg x i*dg y j <= 255*255:=jT (by omega) (by omega);have q:∀ s:Nat,s < 1000000->i64.wrap (((s:Nat):Int).tdiv 256)=((s / 256:Nat):Int):=λ s hs=>by
  rw [qH (by omega),bW (by omega) (by omega)]; omega
 have r:∀ s:Nat,((s:Nat):Int).tmod 256=((s%256:Nat):Int):=λ s=>by
  rw [mQ (by omega)]; omega
 have wj:i64.wrap ((j:Int)+1)=((j+1:Nat):Int):=by rw [bW (by omega) (by omega)]; omega
 have wij:i64.wrap ((i:Int)+(j:Int))=((i+j:Nat):Int):=by rw [bW (by omega) (by omega)]; omega
 have eo:o.getD (i+j) 0=(((o.getD (i+j) 0).toNat:Nat):Int):=by omega
 have e1:i64.wrap (o.getD (i+j) 0+(c:Int))=(((o.getD (i+j) 0).toNat+c:Nat):Int):=by rw [bW (by omega) (by omega)]; omega
 rw [bIj,wij,bD,e1];by_cases h1:j < (nb y).length
 ·have hij:=hb (.inl h1);have e2:i64.wrap (((dg x i:Nat):Int)*((dg y j:Nat):Int))=((dg x i*dg y j:Nat):Int):=by
   rw [<-qG,bW (by omega) (by omega)]
  have e3:i64.wrap ((((o.getD (i+j) 0).toNat+c:Nat):Int)+((dg x i*dg y j:Nat):Int))=((Nt o x y i j c:Nat):Int):=by
   rw [<-iE,bW (by omega) (by omega)]; rfl
  rw [aX (.inl h1),aD (by omega:(j:Int) < ((nb y).length:Int)),IA,aB,aD (by omega),aB,aB,aD (by omega),aB,aD (by omega),aB,aB,bD,bD,CU x i hi,CU y j h1,e2,e3,q _ (by simp only [Nt]; omega),r,wj]
 ·have hy0:=DG y j (by omega);have e3:Nt o x y i j c=(o.getD (i+j) 0).toNat+c:=by simp only [Nt,hy0]; omega
  rw [aJ (by omega:¬ (j:Int) < ((nb y).length:Int)),Ep];by_cases h2:0 < c
  ·have hij:=hb (.inr h2);rw [aX (.inr h2),aD (by omega),aB,aD (by omega),aB,aE,aB,e3,q _ (by omega),r,wj]
  ·rw [aV (by omega),aJ (by omega),aE]
theorem aN8 {β:Type} (x y i L T:Nat) (hx:(nb x).length <= 1048576) (hy:(nb y).length <= 1048576) (hi:i < (nb x).length) (hL:L=(nb x).length+(nb y).length+1) (hT:T < 256 ^ (i+1+(nb y).length)) (fu m:Nat) (G:FG β) (H:FH β) :
  ∀ (d n j c:Nat) (o:List Int),j+d=(nb y).length+1->d < n->c <= 255->kX o=true->o.length=L->vB o+256 ^ (i+j)*(c+dg x i*(y / 256 ^ j))=T ->
   ∃ o',kX o'=true /\ o'.length=L /\ vB o'=T /\ eV prog PX fu Wg (aDw _ y8 (λ t=>nb t) (λ t=>(nb t).length) fu G H) n (some (I0 (nb x) (nb x).length (nb y) (nb y).length L (i:Int) (c:Int) (j:Int) m o)) =
    G (some (PS (nb x) (nb x).length (nb y) (nb y).length L ((i+1:Nat):Int) m o')):=by
 intro d;have cbound:∀ (j c:Nat) (o:List Int),vB o+256 ^ (i+j)*(c+dg x i*(y / 256 ^ j))=T->0 < c->j <= (nb y).length:=by
  intro j c o he hc;have h1:256 ^ (i+j)*1 <= 256 ^ (i+j)*(c+dg x i*(y / 256 ^ j)):=At _ (by omega);have h2:256 ^ (i+j) < 256 ^ (i+1+(nb y).length):=by omega
  have:=(Nat.pow_lt_pow_iff_right (a:=256) (by decide)).1 h2;omega
 have last:∀ (n j:Nat) (o:List Int),(nb y).length <= j->j <= (nb y).length+1->0 < n->kX o=true->o.length=L->vB o+256 ^ (i+j)*(0+dg x i*(y / 256 ^ j))=T ->
   ∃ o',kX o'=true /\ o'.length=L /\ vB o'=T /\ eV prog PX fu Wg (aDw _ y8 (λ t=>nb t) (λ t=>(nb t).length) fu G H) n (some (I0 (nb x) (nb x).length (nb y) (nb y).length L (i:Int) ((0:Nat):Int) (j:Int) m o)) =
    G (some (PS (nb x) (nb x).length (nb y) (nb y).length L ((i+1:Nat):Int) m o')):=by
  intro n j o h1 h2 hn hk hl he;obtain ⟨n,rfl⟩:=aP (by omega:n ≠ 0);refine ⟨o,hk,hl,?_,?_⟩
  ·rw [G0 y j h1] at he; simpa using he
  ·rw [aF,aDJ x y i j 0 m L hx hy hi (by omega) (by omega) o hk hl.symm (by omega),aV (by omega),aR,aVp,bW (by omega) (by omega)]; rfl
 induction d with
 | zero=>
  intro n j c o hj hn hc hk hl he;have:c=0:=by
   rcases G8 c with h | h
   ·exact h
   ·have:=cbound j c o he h; omega
  subst this;exact last n j o (by omega) (by omega) (by omega) hk hl he
 | succ d ih=>
  intro n j c o hj hn hc hk hl he;by_cases hs:j < (nb y).length ∨ 0 < c
  ·obtain ⟨n,rfl⟩:=aP (by omega:n ≠ 0);have hij:i+j < L:=by
    rcases hs with h | h
    ·omega
    ·have:=cbound j c o he h; omega
   have hdx:=xY x i;have hdy:=xY y j;have ho:=My hk (i+j);have hmul:dg x i*dg y j <= 255*255:=jT (by omega) (by omega);have hset:=Zm o (i+j) (Nt o x y i j c%256) (by omega) hk;obtain ⟨o',q1,q2,q3,q4⟩:=ih n (j+1) (Nt o x y i j c / 256) (o.set (i+j) ((Nt o x y i j c%256:Nat):Int)) (by omega) (by omega) (by simp only [Nt]; omega) (Sy _ _ _ hk (bH _ (by decide))) (by simpa using hl) (by
    rw [CW,<-sN,bM];exact aGf _ _ _ _ _ _ _ _ _ he hset rfl)
   refine ⟨o',q1,q2,q3,?_⟩;rw [aF,aDJ x y i j c m L hx hy hi hc (by omega) o hk hl.symm (λ _=>hij),aX hs];exact q4
  ·have:c=0:=by omega
   subst this;exact last n j o (by omega) (by omega) (by omega) hk hl he
theorem aN9 (x y L:Nat) (hx:(nb x).length <= 1048576) (hy:(nb y).length <= 1048576) (hL:L=(nb x).length+(nb y).length+1) (fu m:Nat) (hfu:(nb y).length+1 < fu):∀ (d n i:Nat) (o:List Int),i+d=(nb x).length->d < n->kX o=true->o.length=L->vB o=x%256 ^ i*y ->
  eV prog PX fu PU (Wf _ y8 (λ t=>nb t) (λ t=>(nb t).length) fu) n (some (PS (nb x) (nb x).length (nb y) (nb y).length L (i:Int) m o))=some (eN (x*y)):=by
 intro d
 induction d with
 | zero=>
  intro n i o hi hn hk hl he;obtain ⟨n,rfl⟩:=aP (by omega:n ≠ 0);rw [aF,aYs,aJ (by omega),aE,aR,aVo,aD (by omega),aB,DI o hk,he,show i=(nb x).length by omega,aY (uE x)]
 | succ d ih=>
  intro n i o hi hn hk hl he;obtain ⟨n,rfl⟩:=aP (by omega:n ≠ 0);rw [aF,aYs,aD (by omega),aB];have hsp:x%256 ^ (i+1)=x%256 ^ i+256 ^ i*dg x i:=by rw [bM,qJ]; rfl
  have hT:x%256 ^ (i+1)*y < 256 ^ (i+1+(nb y).length):=by
   rw [dV 256 (i+1)];have h1:x%256 ^ (i+1) < 256 ^ (i+1):=bH _ (jF (by decide));have h2:=uE y;exact Nat.mul_lt_mul'' h1 h2
  obtain ⟨o',q1,q2,q3,q4⟩:=aN8 x y i L (x%256 ^ (i+1)*y) hx hy (by omega) hL hT fu m (eV prog PX fu PU (Wf _ y8 (λ t=>nb t) (λ t=>(nb t).length) fu) n) (Db (Wf _ y8 (λ t=>nb t) (λ t=>(nb t).length) fu)) ((nb y).length+1) fu 0 0 o (by omega) hfu (by omega) hk hl (by
   rw [he,hsp,fX]; simp [dU])
  refine iW q4 ?_;exact ih n (i+1) o' (by omega) (by omega) q1 q2 q3
theorem H7:CallOk prog 130 aAQ:=by
 refine aZ (fu:=λ args=>match args with | [.c (.s (.dat _ n _)),.c (.s (.dat _ m _))]=>n+m+2 | _=>0) bF3 Tryz.func130 ?_;intro args t ht;obtain ⟨x,y,rfl,hx,hy,_,rfl⟩:=qF (F:=λ a b=>a*b) (C:=λ _ _=>true) ht;refine (bIh _ _ _ _ _ _ _ _ _).trans ?_;have e:i64.wrap (i64.wrap (((nb x).length:Int)+((nb y).length:Int))+1)=(((nb x).length+(nb y).length+1:Nat):Int):=by
  rw [bW (n:=((nb x).length:Int)+((nb y).length:Int)) (by omega) (by omega),bW (by omega) (by omega)]; omega
 rw [e,aD (by omega),aB,bD];exact aN9 x y _ hx hy rfl _ _ (by show (nb y).length+1 < (nb x).length+(nb y).length+2; omega) (nb x).length _ 0 (List.replicate ((nb x).length+(nb y).length+1) 0) (by omega) (by show (nb x).length < (nb x).length+(nb y).length+2; omega) (aDi _) (by simp) (by rw [aNH]; simp [qK])
theorem En {x y:Nat} (h:(nb x).length <= 1048576) (h2:(nb y).length <= 1048576):xJ [eN x,eN y]=some (x*y):=Al (λ a b=>a*b) (λ _ _=>true) h h2 rfl
theorem aVz (i r:Nat) (hr:i%8=r) (hi:i <= 1099511627776) (fu:Nat):∀ (d n k v:Nat),k+d=r->d < n->v < 256 ->
  eV prog aGi fu aNU (aNV fu) n (some (aDy (i:Int) (v:Int) (k:Int)))=some (.int .i64 ((v / 2 ^ d%2:Nat):Int)):=by
 intro d;have hm:((i:Nat):Int).tmod 8=((r:Nat):Int):=by rw [mQ (by omega)]; omega
 induction d with
 | zero=>
  intro n k v hk hn hv;obtain ⟨n,rfl⟩:=aP (by omega:n ≠ 0);rw [aF,aYt,hm,aJ (by omega),aE,aR,aVq,mQ (by omega),iY,yA];rfl
 | succ d ih=>
  intro n k v hk hn hv;obtain ⟨n,rfl⟩:=aP (by omega:n ≠ 0);rw [aF,aYt,hm,aD (by omega),aB];have e:i64.wrap (((v:Nat):Int).tdiv 2)=((v / 2:Nat):Int):=by
   rw [qH (by omega),bW (by omega) (by omega)]; omega
  rw [e,bW (by omega) (by omega)];have:=ih n (k+1) (v / 2) (by omega) (by omega) (by omega);rw [jE,bV 2,<-bM] at this;exact this
theorem aOa (x i:Nat):dg x (i / 8) / 2 ^ (i%8)%2=x / 2 ^ i%2:=by
 have h256:(256:Nat)=2 ^ 8:=rfl;have e1:x / 2 ^ i=x / 256 ^ (i / 8) / 2 ^ (i%8):=by
  rw [h256,<-lJ,jE,<-dV,show 8*(i / 8)+i%8=i by omega]
 rw [e1,dg];have hr:i%8 < 8:=bH _ (by decide);rw [h256,show (2:Nat) ^ 8=2 ^ (i%8)*2 ^ (8 - i%8) by rw [<-dV]; congr 1; omega];rw [KM];have:2 ^ (8 - i%8)=2*2 ^ (7 - i%8):=by rw [bV,<-bM]; congr 1; omega
 rw [this,TF]
theorem DK:CallOk prog 47 QD:=by
 refine pC (g:=aGi) (fu:=λ _=>9) kD ⟨aH,λ _ _ h=>by cases h⟩ Tryz.func47 (by kernel_rfl) ?_;intro args t ht;unfold QD at ht;simp only at ht;split at ht
 case h_2=>cases ht
 rename_i a n i;obtain ⟨h1,h2⟩:=bA ht;simp only [aW,bJ] at h1;obtain ⟨x,rfl,rfl,h3,h4⟩:=qE h1.1;have hi:=h1.2;cases h2;rw [h4];refine (bIl _ _ _ _).trans ?_;show _=some (AV.int .i64 ((nM x i:Nat):Int));by_cases hneg:i < 0
 ·rw [aD hneg,aB,nM,aD hneg]; rfl
 ·obtain ⟨k,rfl⟩:=bZ (by omega:0 <= i);have eq:i64.wrap (((k:Nat):Int).tdiv 8)=((k / 8:Nat):Int):=by
   rw [qH (by omega),bW (by omega) (by omega)]; omega
  rw [aJ hneg,aE,eq,nM,aJ hneg,aE];simp only [bD];by_cases hq:(nb x).length <= k / 8
  ·rw [aD (by omega),aB,<-aOa,DG x _ hq]; simp
  ·rw [aJ (by omega),aE,aD (by omega),aB,CU x _ (by omega)];have:=aVz k (k%8) rfl (by omega) 9 (k%8) 9 0 (dg x (k / 8)) (by omega) (by omega) (xY _ _);rw [aOa] at this;exact this
theorem wR {x:Nat} {i:Int} (h:(nb x).length <= 1048576) (h1:-9223372036854775808 <= i) (h2:i < 9223372036854775808):rZ [eN x,.int .i64 i]=some (nM x i):=by
 show cond (NT (nb x) (nb x).length && decide (-9223372036854775808 <= i /\ i < 9223372036854775808)) (some (nM (vB (nb x)) i)) none=_;rw [oX h,gN,aD ⟨h1,h2⟩]; rfl
abbrev aYA:Cg:=aNW (Nat) rZ (λ t=>↑t)
theorem bF4:CfOk prog aYA.c:=gk <| aA DK <| aH
theorem bF5 {x k:Nat} (h:bl x=k+1):x / 2 ^ k%2=1:=by
 obtain ⟨h1,h2⟩:=z7 x;have hx:x ≠ 0:=λ e=>by subst e; rw [Z8] at h; omega
 have h2:=h2 hx;rw [h] at h1 h2;rw [bM] at h1;have hp:0 < 2 ^ k:=jF (by decide);have:x / 2 ^ k=1:=by
  refine (Nat.div_eq_iff (by omega)).2 ?_;simp at h2; omega
 rw [this]
theorem aVA {x k:Nat} (h:bl x <= k):x / 2 ^ k%2=0:=by
 have h1:=(z7 x).1;rw [lG (dD h1 (kM (by decide) h))]
theorem aVB (x:Nat) (hx:(nb x).length <= 1048576) (fu:Nat):∀ (d n k:Nat),k=bl x+d->k <= 8388608->d < n ->
  eV prog aYA fu aNX (aNY _ rZ (λ t=>(t:Int)) fu) n (some (aDA (nb x) (nb x).length (k:Int)))=some (.int .i64 ((bl x:Nat):Int)):=by
 intro d
 induction d with
 | zero=>
  intro n k hk hl hn;obtain ⟨n,rfl⟩:=aP (by omega:n ≠ 0);rw [aF,aYu];by_cases h0:k=0
  ·rw [aJ (by omega),aE,aR,aDB,hk]; rfl
  ·obtain ⟨q,rfl⟩:=aP h0;rw [aD (by omega),aB,bW (by omega) (by omega),show ((q.succ:Nat):Int) - 1=(q:Int) by omega];rw [show AV.s (SV.dat (TRow.ints i64 (nb x)) (nb x).length 1)=eN x from rfl,wR hx (by omega) (by omega),aC];have hb:nM x (q:Int)=1:=by
    rw [nM,aJ (by omega),aE,bD]; exact bF5 (by omega)
   rw [hb,aJ (by decide),aE,aR,aDB,hk]; rfl
 | succ d ih=>
  intro n k hk hl hn;obtain ⟨n,rfl⟩:=aP (by omega:n ≠ 0);obtain ⟨q,rfl⟩:=aP (by omega:k ≠ 0);rw [aF,aYu,aD (by omega),aB,bW (by omega) (by omega),show ((q.succ:Nat):Int) - 1=(q:Int) by omega];rw [show AV.s (SV.dat (TRow.ints i64 (nb x)) (nb x).length 1)=eN x from rfl,wR hx (by omega) (by omega),aC];have hb:nM x (q:Int)=0:=by
   rw [nM,aJ (by omega),aE,bD]; exact aVA (by omega)
  rw [hb,aD (by decide),aB];exact ih n q (by omega) (by omega) (by omega)
theorem aOb (x:Nat):bl x <= 8*(nb x).length:=by
 refine Ny ?_;have:=uE x;rwa [show (256:Nat)=2 ^ 8 from rfl,<-lJ] at this
theorem PY:CallOk prog 140 aAR:=by
 refine aZ (fu:=λ args=>match args with | [.c (.s (.dat _ n _))]=>8*n+1 | _=>0) bF4 Tryz.func140 ?_;intro args t ht;obtain ⟨x,rfl,hx,rfl⟩:=M3 (F:=bl) ht;have hb:=aOb x;refine (bIn _ _ _ _ _ _).trans ?_;rw [bW (by omega) (by omega),show (8:Int)*((nb x).length:Int)=((8*(nb x).length:Nat):Int) by omega];exact aVB x hx _ (8*(nb x).length - bl x) _ _ (by omega) (by omega) (by show _ < 8*(nb x).length+1; omega)
theorem M4 {x:Nat} (h:(nb x).length <= 1048576):Cy [eN x]=some (bl x):=Zq bl h
abbrev aYB:Cg:=aNZ (Nat) kY (λ t=>nb t) (λ t=>(nb t).length) (Nat) rZ (λ t=>↑t) (Int) pN (λ t=>t) (Nat) rY (λ t=>nb t) (λ t=>(nb t).length)
theorem bF6:CfOk prog aYB.c:=gk <| aA vP <| aA DK <| aA DJ <| aA zW <| aH
theorem aYC {x y:Nat} (h:x <= y):(nb x).length <= (nb y).length:=AF (jS h (uE y))
theorem aVC (x y q r b:Nat) (hb:b < 2) (h:x=q*y+r) (hr:r < y):2*x+b=(if y <= 2*r+b then 2*q+1 else 2*q)*y+(if y <= 2*r+b then 2*r+b - y else 2*r+b) /\ (if y <= 2*r+b then 2*r+b - y else 2*r+b) < y:=by
 subst h;by_cases h:y <= 2*r+b
 ·rw [aX h,aX h];refine ⟨?_,by omega⟩;rw [fX,dU]; omega
 ·rw [aV h,aV h];refine ⟨?_,by omega⟩;rw [dU]; omega
theorem aVD (x y:Nat) (hy0:0 < y) (hx:(nb x).length <= 1000000) (hy:(nb y).length <= 1000000) (fu:Nat):∀ (k n:Nat),k <= 8*(nb x).length->k < n ->
  eV prog aYB fu aN0 (aN1 _ kY (λ t=>nb t) (λ t=>(nb t).length) _ rZ (λ t=>(t:Int)) _ pN (λ t=>t) _ rY (λ t=>nb t) (λ t=>(nb t).length) fu) n
   (some (M2 (nb x) (nb x).length (nb y) (nb y).length (nb (x / 2 ^ k / y)) (nb (x / 2 ^ k / y)).length (nb (x / 2 ^ k%y)) (nb (x / 2 ^ k%y)).length ((k:Int) - 1)))=some (.tup [.s (.dat (.ints .i64 (nb (x / y))) (nb (x / y)).length 1),.s (.dat (.ints .i64 (nb (x%y))) (nb (x%y)).length 1)]):=by
 intro k
 induction k with
 | zero=>
  intro n _ hn;obtain ⟨n,rfl⟩:=aP (by omega:n ≠ 0);rw [aF,aYv,aJ (by omega),aE,aR,aVr,iY,yA]
 | succ k ih=>
  intro n hk hn;obtain ⟨n,rfl⟩:=aP (by omega:n ≠ 0);rw [show (((k+1:Nat):Int) - 1)=(k:Int) by omega];have key:=ih n (by omega) (by omega)
  -- the numbers at this bit
  obtain ⟨X,hX⟩:∃ X,X=x / 2 ^ (k+1):=⟨_,rfl⟩;obtain ⟨b,hb⟩:∃ b,b=x / 2 ^ k%2:=⟨_,rfl⟩;have hXk:x / 2 ^ k=2*X+b:=by
   rw [hX,hb,bM,<-jE]; omega
  have hb2:b < 2:=by omega
  obtain ⟨q,hq⟩:∃ q,q=X / y:=⟨_,rfl⟩;obtain ⟨r,hr⟩:∃ r,r=X%y:=⟨_,rfl⟩;have hry:r < y:=by rw [hr]; exact bH _ hy0
  have hqr:X=q*y+r:=by rw [hq,hr,bV]; exact (eI _ _).symm
  obtain ⟨d1,d2⟩:=aVC X y q r b hb2 hqr hry;have hXx:X <= x:=by rw [hX]; exact sO _ _
  have hqX:q <= X:=by rw [hq]; exact sO _ _
  have eq:x / 2 ^ k / y=(if y <= 2*r+b then 2*q+1 else 2*q):=by
   rw [hXk,d1,bV,Nat.mul_add_div hy0,lG d2,fP]
  have er:x / 2 ^ k%y=(if y <= 2*r+b then 2*r+b - y else 2*r+b):=by
   rw [hXk]
   conv=>lhs; rw [d1]
   rw [bV,Nat.mul_add_mod,aY d2]
  rw [eq,er] at key;rw [<-hX,<-hq,<-hr]
  -- lengths
  have lx:∀ z,z <= x->(nb z).length <= 1048576:=λ z hz=>by have:=aYC hz; omega
  have big:∀ z w:Nat,z <= 4*w+4->(nb w).length <= 1000000->(nb z).length <= 1048576:=by
   intro z w h1 h2;refine dC (AF (k:=(nb w).length+1) ?_) (by omega);have:=uE w;rw [bM]; omega
  have lr:(nb r).length <= 1048576:=big r y (by omega) hy;have lq:(nb q).length <= 1048576:=lx q (by omega);have ly:(nb y).length <= 1048576:=by omega
  have l2r:(nb (r+r)).length <= 1048576:=big _ y (by omega) hy;have l2r1:(nb (r+r+1)).length <= 1048576:=big _ y (by omega) hy;have l2q:(nb (q+q)).length <= 1048576:=big _ x (by omega) hx;have e1:AV.s (SV.dat (TRow.ints i64 [(1:Int)]) 1 1)=eN 1:=by
   have:nb 1=[1]:=by decide
   simp only [eN,this,wS]
  have eN':∀ z,AV.s (SV.dat (TRow.ints i64 (nb z)) (nb z).length 1)=eN z:=λ _=>rfl;have l1:(nb 1).length <= 1048576:=by decide
  have hbit:nM x (k:Int)=b:=by rw [nM,aJ (by omega),aE,bD,hb]
  have cmp0:∀ z:Nat,decide ((0:Int) <= tV z y)=decide (y <= z):=λ z=>Co z y;rw [aF,aYv,aD (by omega:(0:Int) <= (k:Int)),aB];simp only [eN',e1];rw [jY lr lr,aC,wR (lx x (bX _)) (by omega) (by omega),aC,hbit,bW (by omega) (by omega)];by_cases h1:b=1
  ·subst h1;rw [aD (by rfl),aB,jY l2r l1,aC,jY lq lq,aC,oY l2r1 ly,aC,cmp0];by_cases hge:y <= 2*r+1
   ·rw [aX hge,aX hge] at key;rw [aD (by omega),aB,rO l2r1 ly (by omega),aC,jY l2q l1,aC];rw [show r+r+1 - y=2*r+1 - y by omega,show q+q+1=2*q+1 by omega];exact key
   ·rw [aV hge,aV hge] at key;rw [aJ (by omega),aE,show r+r+1=2*r+1 by omega,show q+q=2*q by omega];exact key
  ·have:b=0:=by omega
   subst this;rw [aJ (by decide),aE,jY lq lq,aC,oY l2r ly,aC,cmp0];rw [fP] at key;by_cases hge:y <= 2*r
   ·rw [aX hge,aX hge] at key;rw [aD (by omega),aB,rO l2r ly (by omega),aC,jY l2q l1,aC];rw [show r+r - y=2*r - y by omega,show q+q+1=2*q+1 by omega];exact key
   ·rw [aV hge,aV hge] at key;rw [aJ (by omega),aE,show r+r=2*r by omega,show q+q=2*q by omega];exact key
theorem H8:CallOk prog 17 aAS:=by
 refine aZ (fu:=λ args=>match args with | [.c (.s (.dat _ n _)),_]=>8*n+1 | _=>0) bF6 Tryz.func17 ?_;intro args t ht;obtain ⟨x,y,rfl,hx,hy,hc,rfl⟩:=qF (F:=λ a b=>(a / b,a%b)) (C:=λ a b=>Nat.blt 0 b && Nat.ble (nb a).length 1000000 && Nat.ble (nb b).length 1000000) ht;simp only [aW,DH,bJ] at hc;obtain ⟨⟨h0,h1⟩,h2⟩:=hc;have h0:0 < y:=dA h0;refine (bIp ..).trans ?_;have e:i64.wrap (i64.wrap ((8:Int)*((nb x).length:Int)) - 1)=((8*(nb x).length:Nat):Int) - 1:=by
  rw [bW (n:=(8:Int)*_) (by omega) (by omega),bW (by omega) (by omega)]; omega
 have hz:x / 2 ^ (8*(nb x).length)=0:=by
  refine lG ?_;have:=uE x;rwa [show (256:Nat)=2 ^ 8 from rfl,<-lJ] at this
 have:=aVD x y h0 h1 h2 (8*(nb x).length+1) (8*(nb x).length) (8*(nb x).length+1) (bX _) (lH _);rw [hz,Nat.zero_div,DS,Cv] at this;rw [e];exact this
theorem Eo {x y:Nat} (h:(nb x).length <= 1000000) (h2:(nb y).length <= 1000000) (h0:0 < y):JW [eN x,eN y]=some (x / y,x%y) :=
 Al (λ a b=>(a / b,a%b)) (λ a b=>Nat.blt 0 b && Nat.ble (nb a).length 1000000 && Nat.ble (nb b).length 1000000) (by omega) (by omega) (by
  simp only [aW,DH,bJ];exact ⟨⟨lY h0,h⟩,h2⟩)
theorem Wj (x k i:Nat) (hi:i < k):(lo i x++List.replicate (k - i) 0).set i ((dg x i:Nat):Int)=lo (i+1) x++List.replicate (k - (i+1)) 0:=by
 have hlo:∀ (i x:Nat),lo (i+1) x=lo i x++[((dg x i:Nat):Int)]:=by
  intro i
  induction i with
  | zero=>intro x; simp [lo,dg]
  | succ i ih=>
   intro x;rw [lo,ih (x / 256),lo,Cc];have:dg (x / 256) i=dg x (i+1):=by rw [dg,dg,jE,bM,bV]
   rw [this]
 have hl:(lo i x).length=i:=fS i x;rw [hlo,show k - i=(k - (i+1))+1 by omega,x8,Aq _ _ (by omega),hl,iL,u5,iO];rfl
abbrev aYD:Cg:=aN2 (Nat) xJ (λ t=>nb t) (λ t=>(nb t).length) (Nat) y9 (λ t=>nb t) (λ t=>(nb t).length) (Nat) kY (λ t=>nb t) (λ t=>(nb t).length)
theorem bF7:CfOk prog aYD.c:=gk <| aA H7 <| aA I4 <| aA vP <| aH
def aVE (v:Nat) (s:Str):Nat × Bool:=cond (s.all qU) (wW v s,true) (0,false)
theorem aVF (s:Str) (hl:s.length <= 65536) (fu:Nat):∀ (d n i v:Nat),i+d=s.length->d < n->v < 256 ^ i ->
  eV prog aYD fu aN3 (aDE _ xJ (λ t=>nb t) (λ t=>(nb t).length) _ y9 (λ t=>nb t) (λ t=>(nb t).length) _ kY (λ t=>nb t) (λ t=>(nb t).length) fu) n (some (aDD s (nb v) (nb v).length (i:Int))) =
   some (mH.enc (aVE v (s.drop i))):=by
 intro d;have enc:∀ a b,mH.enc (a,b)=.tup [.s (.dat (.ints .i64 (nb a)) (nb a).length 1),.s (.pl (.bool b))]:=λ _ _=>rfl
 induction d with
 | zero=>
  intro n i v hi hn hv;obtain ⟨n,rfl⟩:=aP (by omega:n ≠ 0);have:i=s.length:=by omega
  subst this;rw [aF,aYx,aJ (by omega),aE,aR,aVs,S9]; rfl
 | succ d ih=>
  intro n i v hi hn hv;obtain ⟨n,rfl⟩:=aP (by omega:n ≠ 0);have hb:0 <= (i:Int) /\ (i:Int) < (s.length:Int):=by omega
  rw [aF,aYx,aD (by omega:(i:Int) < (s.length:Int)),aB,aD hb,aB,aB,bD];have edr:aVE v (s.drop i)=cond (qU (s.getD i 0) && (s.drop (i+1)).all qU) (wW (v*10+((s.getD i 0).toNat - 48)) (s.drop (i+1)),true) (0,false):=by
   rw [aGj s i 0 (by omega)]; rfl
  rw [edr];have hd:qU (s.getD i 0)=(decide (48 <= (s.getD i 0).toNat) && decide ((s.getD i 0).toNat <= 57)):=by simp only [qU,DH]
  rw [hd];by_cases h1:(s.getD i 0).toNat < 48
  ·rw [aD (by omega:(((s.getD i 0).toNat:Nat):Int) < 48),aB,aR,aN4,aJ (by omega:¬ 48 <= (s.getD i 0).toNat),tY,tY,aE,enc,Cv];rfl
  ·rw [aJ (by omega:¬ (((s.getD i 0).toNat:Nat):Int) < 48),aE];by_cases h2:57 < (s.getD i 0).toNat
   ·rw [aD (by omega:(57:Int) < (((s.getD i 0).toNat:Nat):Int)),aB,aR,aN4,aJ (by omega:¬ (s.getD i 0).toNat <= 57),S6,tY,aE,enc,Cv];rfl
   ·rw [aJ (by omega:¬ (57:Int) < (((s.getD i 0).toNat:Nat):Int)),aE];have lv:(nb v).length <= 65536:=dC (AF hv) (by omega);have l10:(nb 10).length <= 1048576:=by decide
    have e10:AV.s (SV.dat (TRow.ints i64 [(10:Int)]) 1 1)=eN 10:=by
     have:nb 10=[10]:=by decide
     simp only [eN,this,wS]
    have hw:u64.wrap (u8.wrap ((((s.getD i 0).toNat:Nat):Int) - 48))=(((s.getD i 0).toNat - 48:Nat):Int):=by
     rw [show ((((s.getD i 0).toNat:Nat):Int) - 48)=(((s.getD i 0).toNat - 48:Nat):Int) by omega,qD,aY (by omega),gP,aY (by omega)]
    have eN':∀ z,AV.s (SV.dat (TRow.ints i64 (nb z)) (nb z).length 1)=eN z:=λ _=>rfl;have l1:(nb (v*10)).length <= 1048576:=dC (AF (k:=i+1) (by rw [bM]; omega)) (by omega);have l2:(nb ((s.getD i 0).toNat - 48)).length <= 1048576:=dC (AF (k:=1) (by omega)) (by omega);simp only [eN',e10];rw [En (by omega) l10,aC,aB,hw,An (by omega),aC,jY l1 l2,aC,bW (by omega) (by omega)];rw [aD (by omega:48 <= (s.getD i 0).toNat),aD (by omega:(s.getD i 0).toNat <= 57),CY,mO];exact ih n (i+1) _ (by omega) (by omega) (by rw [bM]; omega)
theorem Nu:CallOk prog 87 mH:=by
 refine aZ (fu:=λ args=>match args with | [.c (.s (.pl (.str s)))]=>s.length+1 | _=>0) bF7 Tryz.func87 ?_;intro args t ht;unfold mH at ht;simp only at ht;split at ht
 case h_2=>cases ht
 rename_i s;obtain ⟨hl,h2⟩:=bA ht;have hl:s.length <= 65536:=vA hl;cases h2;refine (bIq ..).trans ?_;have main:=aVF s hl (s.length+1) s.length (s.length+1) 0 0 (by omega) (lH _) (by decide);rw [Cv,gL] at main;have enc0:mH.enc ((0:Nat),false)=AV.tup [.s (.dat (.ints .i64 []) 0 1),.s (.pl (.bool false))]:=by
  show AV.tup [.s (.dat (.ints .i64 (nb 0)) (nb 0).length 1),.s (.pl (.bool false))]=_;rw [Cv]; rfl
 rcases s with _ | ⟨c,_ | ⟨d,r⟩⟩
 ·rw [show yY []=false from rfl,aE,enc0]; rfl
 ·rw [aJ (by simp),aE];have h1:¬ (1:Int) < (([c]:Str).length:Int):=by simp
  rw [aJ h1,aE];refine main.trans ?_;simp only [aVE,yY,Cb,List.all_nil,H9]
 ·rw [aJ (by simp; omega),aE];have h1:(1:Int) < (((c :: d :: r:Str)).length:Int):=by simp; omega
  have h2:(0:Int) <= 0 /\ (0:Int) < (((c :: d :: r:Str)).length:Int):=by simp; omega
  rw [aD h1,aB,aD h2,aB];have hg:List.getD (c :: d :: r) (Int.toNat 0) 0=c:=rfl;rw [hg];have hc:decide (((c.toNat:Nat):Int)=48)=Nat.beq c.toNat 48:=by
   rw [xZ]; exact mA.2 (by omega)
  rw [hc];simp only [yY];cases hb:Nat.beq c.toNat 48
  ·simp only [aE,jB,mO];refine main.trans ?_;simp only [aVE];rw [Cb]
  ·simp only [aB,iD,tY,aE,enc0]
theorem M5 {s:Str} (h:s.length <= 65536):BZ [.str s]=some (cond (yY s) (wW 0 s,true) (0,false)):=by
 simp only [BZ,mH,h,qP,aB]
theorem aDK {l:List Int} (h:kX l=true):vS (l.map b8)=vB l:=by
 induction l with
 | nil=>rfl
 | cons x r ih=>
  simp only [kX,aW,bJ] at h;have ih:=ih h.2;simp only [vS,mR,vB] at ih ⊢;rw [ih];have:(sE (b8 x)).toNat=x.toNat:=by
   simp only [sE,b8,bD,UInt8.toNat_ofNat'];omega
  rw [this]
end
end Go.Eng
