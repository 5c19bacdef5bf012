import Derived.Test.YthiilbllojllcaaGreatZL2
namespace Go.Eng
open Go.IntKind (u64 i64 u8)
noncomputable section
set_option linter.all false
def vB:List Int->Nat
 | []=>0
 | x :: r=>x.toNat+256*vB r
def kX:List Int->Bool
 | []=>true
 | x :: r=>decide (0 <= x /\ x < 256) && kX r
def cK:List Int->Nat
 | []=>0
 | x :: r=>match cK r with
  | 0=>if x=0 then 0 else 1
  | n+1=>n+2
def nD (l:List Int):List Int:=l.take (cK l)
def nbF:Nat->Nat->List Int
 | 0,_=>[]
 | f+1,n=>if n=0 then [] else ((n%256:Nat):Int) :: nbF f (n / 256)
def nb (n:Nat):List Int:=nbF (n.log2 / 8+1) n
def lo:Nat->Nat->List Int
 | 0,_=>[]
 | k+1,n=>((n%256:Nat):Int) :: lo k (n / 256)
theorem fS (k n:Nat):(lo k n).length=k:=by
 induction k generalizing n with
 | zero=>rfl
 | succ k ih=>simp [lo,ih]
theorem vX (k n:Nat):kX (lo k n)=true:=by
 induction k generalizing n with
 | zero=>rfl
 | succ k ih=>simp only [lo,kX,ih,H9,bJ]; omega
theorem Fa (k n:Nat):vB (lo k n)=n%256 ^ k:=by
 induction k generalizing n with
 | zero=>simp [lo,vB,qK]
 | succ k ih=>
  simp only [lo,vB,ih,bD];rw [bM,bV (256 ^ k),qJ]
theorem Ks:∀ a:List Int,kX a=true->lo a.length (vB a)=a:=by
 intro a
 induction a with
 | nil=>intro _; rfl
 | cons x r ih=>
  intro h;simp only [kX,aW,bJ] at h;simp only [fY,lo,vB];have e1:(x.toNat+256*vB r)%256=x.toNat:=by omega
  have e2:(x.toNat+256*vB r) / 256=vB r:=by omega
  rw [e1,e2,ih h.2];congr 1; omega
theorem IR:∀ a:List Int,kX a=true->vB a < 256 ^ a.length:=by
 intro a
 induction a with
 | nil=>intro _; simp [vB]
 | cons x r ih=>
  intro h;simp only [kX,aW,bJ] at h;have:=ih h.2;simp only [fY,vB,bM];omega
theorem aIt (a b:List Int):vB (a++b)=vB a+256 ^ a.length*vB b:=by
 induction a with
 | nil=>simp [vB]
 | cons x r ih=>
  simp only [Cc,vB,ih,fY,bM];rw [yC,bV (256 ^ r.length) 256,dU]; omega
theorem aAK {a b:List Int}:kX (a++b)=(kX a && kX b):=by
 induction a with
 | nil=>simp [kX]
 | cons x r ih=>simp [kX,ih,Bool.and_assoc]
theorem rF (l:List Int):cK l <= l.length:=by
 induction l with
 | nil=>simp [cK]
 | cons x r ih=>
  simp only [cK,fY];split
  ·split <;> omega
  ·rename_i n h; rw [h] at ih; omega
theorem uK (l:List Int):(nD l).length=cK l:=by
 rw [nD,dH]; exact G9 (rF l)
theorem AE (x:Int) (r:List Int):nD (x :: r)=match nD r with
  | []=>if x=0 then [] else [x]
  | y :: t=>x :: y :: t:=by
 have hl:=uK r;unfold nD at *;simp only [cK];cases h:cK r with
 | zero=>
  simp only [sM];split <;> simp
 | succ n=>
  rw [h] at hl;cases ht:r.take (n+1) with
  | nil=>rw [ht] at hl; simp at hl
  | cons y t=>simp only [sL,ht]
theorem QB:∀ {l:List Int},kX l=true->(vB l=0 ↔ nD l=[]):=by
 intro l
 induction l with
 | nil=>intro _; simp [vB,nD]
 | cons x r ih=>
  intro h;simp only [kX,aW,bJ] at h;have ih:=ih h.2;rw [AE];cases ht:nD r with
  | nil=>
   have hv:=ih.2 ht;simp only [vB,hv];by_cases hx:x=0
   ·simp [hx]
   ·simp only [hx,oK]; constructor
    ·intro e; omega
    ·intro e; cases e
  | cons y t=>
   have:vB r ≠ 0:=λ e=>by rw [ih.1 e] at ht; cases ht
   simp only [vB];constructor
   ·intro e; omega
   ·intro e; cases e
theorem aIu:∀ (l:List Int) (f:Nat),kX l=true->vB l < 256 ^ f->nbF f (vB l)=nD l:=by
 intro l
 induction l with
 | nil=>intro f _ _; cases f <;> simp [nbF,vB,nD]
 | cons x r ih=>
  intro f h hf;have hz:=QB (l:=x :: r) h;simp only [kX,aW,bJ] at h;cases f with
  | zero=>
   have:vB (x :: r)=0:=by simpa using hf
   rw [hz.1 this]; rfl
  | succ f=>
   simp only [nbF];by_cases h0:vB (x :: r)=0
   ·rw [aX h0,hz.1 h0]
   ·rw [aV h0];have e1:vB (x :: r)%256=x.toNat:=by simp only [vB]; omega
    have e2:vB (x :: r) / 256=vB r:=by simp only [vB]; omega
    rw [e1,e2,ih f h.2 (by rw [bM] at hf; simp only [vB] at hf; omega),AE];have ex:((x.toNat:Nat):Int)=x:=by omega
    cases ht:nD r with
    | nil=>
     have hv:=(QB h.2).2 ht;have:x ≠ 0:=λ e=>h0 (by simp only [vB,hv,e]; rfl);rw [ex]; simp [this]
    | cons y t=>rw [ex]
theorem Cu (n:Nat):n < 256 ^ (n.log2 / 8+1):=by
 have h1:n < 2 ^ (n.log2+1):=Nat.lt_log2_self;refine dD h1 ?_;rw [show (256:Nat)=2 ^ 8 from rfl,<-lJ];exact kM (by decide) (by omega)
theorem aAL {l:List Int} (h:kX l=true):nb (vB l)=nD l:=aIu l _ h (Cu _)
theorem aAM {k n:Nat} (h:n < 256 ^ k):nb n=nD (lo k n):=by
 have:=aAL (vX k n);rw [Fa,aY h] at this; exact this
theorem aIv {l:List Int} (h:kX l=true):kX (nD l)=true:=by
 induction l with
 | nil=>rfl
 | cons x r ih=>
  simp only [kX,aW] at h;have ih:=ih h.2;rw [AE];cases ht:nD r with
  | nil=>simp only []; split <;> simp [kX,h.1]
  | cons y t=>rw [ht] at ih; simp only [kX,h.1,mO]; simpa [kX] using ih
theorem aQt {l:List Int} (h:kX l=true):vB (nD l)=vB l:=by
 induction l with
 | nil=>rfl
 | cons x r ih=>
  have h2:=h;simp only [kX,aW] at h2;have ih:=ih h2.2;rw [AE];cases ht:nD r with
  | nil=>
   have hv:=(QB h2.2).2 ht;simp only [];split
   ·rename_i e; simp [vB,hv,e]
   ·simp [vB,hv]
  | cons y t=>rw [ht] at ih; simp only [vB] at ih ⊢; omega
theorem EK (n:Nat):kX (nb n)=true:=by
 rw [aAM (Cu n)]; exact aIv (vX _ _)
theorem gN (n:Nat):vB (nb n)=n:=by
 rw [aAM (Cu n),aQt (vX _ _),Fa,aY (Cu n)]
theorem Kt (n:Nat):cK (nb n)=(nb n).length:=by
 have h:=aAL (EK n);rw [gN] at h;have:=dW List.length h;rw [uK] at this; exact this.symm
theorem AF {n k:Nat} (h:n < 256 ^ k):(nb n).length <= k:=by
 rw [aAM h,uK];have:=rF (lo k n);rw [fS] at this; exact this
theorem Cv:nb 0=[]:=by decide
theorem vY (n:Nat):(nb n).length=0 ↔ n=0:=by
 constructor
 ·intro h;have:nb n=[]:=qI h;have:=dW vB this;rw [gN] at this; exact this
 ·intro h; subst h; rw [Cv]; rfl
theorem bGO {l:List Int} (h:kX l=true) (ht:cK l=l.length):nb (vB l)=l:=by
 rw [aAL h,nD,ht,Ar]
theorem N7 {n k:Nat} (h:k < (nb n).length):256 ^ k <= n:=by
 rcases u7 n (256 ^ k) with h1 | h1
 ·have:=AF h1; omega
 ·exact h1
theorem uE (n:Nat):n < 256 ^ (nb n).length:=by
 have:=IR (nb n) (EK n);rwa [gN] at this
theorem Cw (k n i:Nat) (h:i < k):(lo k n).getD i 0=((n / 256 ^ i%256:Nat):Int):=by
 induction k generalizing n i with
 | zero=>omega
 | succ k ih=>
  cases i with
  | zero=>simp [lo]
  | succ i=>
   simp only [lo,Ey];rw [ih _ _ (by omega),bM,bV (256 ^ i),jE]
theorem Ku (n:Nat):nb n=lo (nb n).length n:=by
 have:=Ks (nb n) (EK n);rw [gN] at this; exact this.symm
theorem aQu (n i:Nat) (h:i < (nb n).length):(nb n).getD i 0=((n / 256 ^ i%256:Nat):Int):=by
 rw [Ku];rw [Cw _ _ _ h]
open Go Go.Proofs
def NT (a:List Int) (n:Nat):Bool:=kX a && Nat.beq (cK a) a.length && Nat.beq n a.length && Nat.ble n 1048576
def eN (t:Nat):AV:=.s (.dat (.ints .i64 (nb t)) (nb t).length 1)
def N8 {T:Type} (F:Nat->T):FA T
 | [.c (.s (.dat (.ints .i64 a) n 1))]=>cond (NT a n) (some (F (vB a))) none
 | _=>none
def A2 {T:Type} (F:Nat->Nat->T) (C:Nat->Nat->Bool:=λ _ _=>true):FA T
 | [.c (.s (.dat (.ints .i64 a) n 1)),.c (.s (.dat (.ints .i64 b) m 1))]=>cond (NT a n && NT b m && C (vB a) (vB b)) (some (F (vB a) (vB b))) none
 | _=>none
def aIw:Summ where
 T:=Nat
 run:=λ
  | [.c (.s (.dat (.ints .i64 a) n 1))]=>cond (kX a && Nat.beq n a.length && Nat.ble n 4194304) (some (vB a)) none
  | _=>none
 enc:=eN
def y8:FA Nat:=aIw.run
def HV:TRow->Nat->Nat->FA (Bool × AV × TRow)
 | .ints .i64 xs,n,1,[]=>some (decide (n <= 1099511627776),.s (.sub 0 0 (cK xs) 1),.ints .i64 xs)
 | _,_,_,_=>none
def vS (s:Str):Nat:=vB (s.map sE)
def QC:Summ where
 T:=Nat
 run:=λ
  | [.c (.s (.pl (.str s)))]=>cond (decide (s.length <= 1048576)) (some (vS s)) none
  | _=>none
 enc:=eN
def BW:FA Nat:=QC.run
def Cx:Summ where
 T:=Nat
 run:=λ
  | [.c (.s (.pl (.int .u64 n)))]=>cond (iV n) (some n.toNat) none
  | _=>none
 enc:=eN
def y9:FA Nat:=Cx.run
def aAN:Summ:={ T:=Int,run:=A2 tV,enc:=λ t=>.int .i64 t }
def pN:FA Int:=aAN.run
def aAO:FA Nat
 | [.c (.s (.dat (.ints .i64 a) n 1)),.c (.s (.dat (.ints .i64 b) m 1))]=>cond (kX a && Nat.beq n a.length && Nat.ble n 1048576 && NT b m) (some (vB a+vB b)) none
 | _=>none
def Fb:Summ:={ T:=Nat,run:=aAO,enc:=eN }
def kY:FA Nat:=Fb.run
def aAP:Summ:={ T:=Nat,run:=A2 (λ a b=>a - b) λ a b=>Nat.ble b a,enc:=eN }
def rY:FA Nat:=aAP.run
def aAQ:Summ:={ T:=Nat,run:=A2 λ a b=>a*b,enc:=eN }
def xJ:FA Nat:=aAQ.run
def QD:Summ where
 T:=Nat
 run:=λ
  | [.c (.s (.dat (.ints .i64 a) n 1)),.c (.s (.pl (.int .i64 i)))]=>cond (NT a n && decide (-9223372036854775808 <= i /\ i < 9223372036854775808)) (some (nM (vB a) i)) none
  | _=>none
 enc:=λ t=>.int .i64 (t:Int)
def rZ:FA Nat:=QD.run
def aAR:Summ:={ T:=Nat,run:=N8 bl,enc:=λ t=>.int .i64 (t:Int) }
def Cy:FA Nat:=aAR.run
def aAS:Summ:={ T:=Nat × Nat,run:=A2 (λ a b=>(a / b,a%b)) λ a b=>Nat.blt 0 b && Nat.ble (nb a).length 1000000 && Nat.ble (nb b).length 1000000,enc:=λ t=>.tup [.s (.dat (.ints .i64 (nb t.1)) (nb t.1).length 1),.s (.dat (.ints .i64 (nb t.2)) (nb t.2).length 1)] }
def JW:FA (Nat × Nat):=aAS.run
def JC (n v:Nat):Str:=(lo n v).map b8
def mH:Summ where
 T:=Nat × Bool
 run:=λ
  | [.c (.s (.pl (.str s)))]=>cond (decide (s.length <= 65536)) (some (cond (yY s) (wW 0 s,true) (0,false))) none
  | _=>none
 enc:=λ t=>.tup [.s (.dat (.ints .i64 (nb t.1)) (nb t.1).length 1),.s (.pl (.bool t.2))]
def BZ:FA (Nat × Bool):=mH.run
def QE:Summ where
 T:=Nat × Int
 run:=λ
  | [.c (.s (.pl (.str s)))]=>cond (decide (s.length <= 1099511627776)) (some (cond (Nat.blt 64 s.length) (0,5) (vS s,0))) none
  | _=>none
 enc:=λ t=>.tup [.s (.pl (.agg (.ints .u64 (cM 8 t.1)) 8)),.s (.pl (.int .i64 t.2))]
def Xc:FA (Nat × Int):=QE.run
def aIx:Summ:={ T:=Str,run:=KS λ a=>JC 64 (val a),enc:=λ t=>.str t }
def aIy:FA Str:=aIx.run
section
variable (T0:Type) (R0:FA T0) (aG:T0->Int)
def bGP:Cg:=⟨⟨cV [(127,⟨R0,λ t=>AV.int .i64 (aG t)⟩)],[],cX⟩,[]⟩
theorem bGQ (fu:Nat) (x:Int):aS prog Tryz.f211 (bGP T0 R0 aG) fu [.int .u64 x]=(R0 [.int .u64 x]).bind λ t=>some (AV.int .i64 (i64.wrap (64 - aG t))):=by kernel_rfl
end
section
variable (T0:Type) (R0:FA T0) (aG:T0->Int)
def Tx:Cg:=⟨⟨cV [(211,⟨R0,λ t=>AV.int .i64 (aG t)⟩)],[],cX⟩,[(18,[2,8,9,10,11,13,14,15,16],[2,8,9,10,11,13,14,15]),(25,[2,8,9,10,14,15,16,17,18],[2,8,14,15,17,18])]⟩
def aIz (v2 v8 v9 gR fN oM mB nI Dn:Int):St:={ tm:=[(2,.int .u64 v2),(8,.int .u64 v8),(9,.int .u64 v9),(10,.int .u64 gR),(11,.int .u64 fN),(13,.int .u64 oM),(14,.int .u64 mB),(15,.int .u64 nI),(16,.int .u64 Dn)],hp:=[],nx:=0,sz:=135 }
def aWE:Code:=cN (bN [1,1,1,1,1,1,1,1,1,1,1,1,1,1,0,2] (bB Tryz.f210))
def aWF (fu:Nat):=mD prog (Tx T0 R0 aG) fu [1,1,1,1,1,1,1,1,1,1,1,1,1,1,0,2] (bB Tryz.f210) (gI prog Tryz.f210)
abbrev aIA (fu:Nat) (v2 v8 v9 gR fN oM mB nI Dn:Int):=eV prog (Tx T0 R0 aG) fu aWE (aWF T0 R0 aG fu ) fu (some (aIz v2 v8 v9 gR fN oM mB nI Dn))
theorem bGR (fu:Nat) (x y z:Int):aS prog Tryz.f210 (Tx T0 R0 aG) fu [.int .u64 x,.int .u64 y,.int .u64 z]=bif decide (z=0) then none else bif decide (z <= x) then none else bif decide (x=0) then bif decide (z=0) then none else bif decide (z=0) then none else some (AV.tup [.s (.pl (.int .u64 (u64.wrap (y.tdiv z)))),.s (.pl (.int .u64 (y.tmod z)))]) else (R0 [.int .u64 z]).bind λ t=>bif decide (u64.wrap (aG t) < 0) then none else bif decide (u64.wrap (aG t) < 0) then none else bif decide (u64.wrap (64 - u64.wrap (aG t)) < 0) then none else bif decide (u64.wrap (aG t) < 0) then none else bif decide (eJ .u64 (mE .u64 z (u64.wrap (aG t))) (32:Int)=0) then none else aIA T0 R0 aG fu (mE .u64 z (u64.wrap (aG t))) (u64.wrap (aG t)) (eJ .u64 (mE .u64 z (u64.wrap (aG t))) 32) (fH .u64 (mE .u64 z (u64.wrap (aG t))) 4294967295) (Fv .u64 (mE .u64 x (u64.wrap (aG t))) (eJ .u64 y (u64.wrap (64 - u64.wrap (aG t))))) (eJ .u64 (mE .u64 y (u64.wrap (aG t))) 32) (fH .u64 (mE .u64 y (u64.wrap (aG t))) 4294967295) (u64.wrap ((Fv .u64 (mE .u64 x (u64.wrap (aG t))) (eJ .u64 y (u64.wrap (64 - u64.wrap (aG t))))).tdiv (eJ .u64 (mE .u64 z (u64.wrap (aG t))) 32))) (u64.wrap (Fv .u64 (mE .u64 x (u64.wrap (aG t))) (eJ .u64 y (u64.wrap (64 - u64.wrap (aG t)))) - u64.wrap (u64.wrap ((Fv .u64 (mE .u64 x (u64.wrap (aG t))) (eJ .u64 y (u64.wrap (64 - u64.wrap (aG t))))).tdiv (eJ .u64 (mE .u64 z (u64.wrap (aG t))) 32))*eJ .u64 (mE .u64 z (u64.wrap (aG t))) 32))):=by kernel_rfl
def QF (v2 v8 v9 gR fN oM mB nI:Int):St:={ tm:=[(2,.int .u64 v2),(8,.int .u64 v8),(9,.int .u64 v9),(10,.int .u64 gR),(11,.int .u64 fN),(13,.int .u64 oM),(14,.int .u64 mB),(15,.int .u64 nI)],hp:=[],nx:=0,sz:=135 }
theorem bGS {β:Type} (fu:Nat) (G:FG β) (H:FH β) (v2 v8 v9 gR fN oM mB nI Dn:Int):fV prog (Tx T0 R0 aG) fu aWE G H (aIz v2 v8 v9 gR fN oM mB nI Dn)=bif decide (4294967296 <= nI) || decide (u64.wrap (u64.wrap (4294967296*Dn)+oM) < u64.wrap (nI*gR)) then bif decide (4294967296 <= u64.wrap (Dn+v9)) then H (Ex.exit 0) (some (QF v2 v8 v9 gR fN oM mB (u64.wrap (nI - 1)))) else G (some (aIz v2 v8 v9 gR fN oM mB (u64.wrap (nI - 1)) (u64.wrap (Dn+v9)))) else H (Ex.exit 0) (some (QF v2 v8 v9 gR fN oM mB nI)):=by kernel_rfl
def aIB (v2 v8 v9 gR mB nI Dn v17 zZ:Int):St:={ tm:=[(2,.int .u64 v2),(8,.int .u64 v8),(9,.int .u64 v9),(10,.int .u64 gR),(14,.int .u64 mB),(15,.int .u64 nI),(16,.int .u64 Dn),(17,.int .u64 v17),(18,.int .u64 zZ)],hp:=[],nx:=0,sz:=135 }
def aWG:Code:=cN (bN [1,1,1,1,1,1,1,1,1,1,1,1,1,1,1,1,1,1,0,2] (bB Tryz.f210))
def aWH (fu:Nat):=mD prog (Tx T0 R0 aG) fu [1,1,1,1,1,1,1,1,1,1,1,1,1,1,1,1,1,1,0,2] (bB Tryz.f210) (gI prog Tryz.f210)
abbrev aWI (fu:Nat) (v2 v8 v9 gR mB nI Dn v17 zZ:Int):=eV prog (Tx T0 R0 aG) fu aWG (aWH T0 R0 aG fu ) fu (some (aIB v2 v8 v9 gR mB nI Dn v17 zZ))
theorem aQv (fu:Nat) (v2 v8 v9 gR fN oM mB nI:Int):aWF T0 R0 aG fu  (Ex.exit 0) (QF v2 v8 v9 gR fN oM mB nI)=bif decide (v9=0) then none else aWI T0 R0 aG fu v2 v8 v9 gR mB nI (u64.wrap (u64.wrap (u64.wrap (u64.wrap (fN*4294967296)+oM) - u64.wrap (nI*v2)) - u64.wrap (u64.wrap ((u64.wrap (u64.wrap (u64.wrap (fN*4294967296)+oM) - u64.wrap (nI*v2))).tdiv v9)*v9))) (u64.wrap (u64.wrap (u64.wrap (fN*4294967296)+oM) - u64.wrap (nI*v2))) (u64.wrap ((u64.wrap (u64.wrap (u64.wrap (fN*4294967296)+oM) - u64.wrap (nI*v2))).tdiv v9)):=by kernel_rfl
def QG (v2 v8 mB nI v17 zZ:Int):St:={ tm:=[(2,.int .u64 v2),(8,.int .u64 v8),(14,.int .u64 mB),(15,.int .u64 nI),(17,.int .u64 v17),(18,.int .u64 zZ)],hp:=[],nx:=0,sz:=135 }
theorem bGT {β:Type} (fu:Nat) (G:FG β) (H:FH β) (v2 v8 v9 gR mB nI Dn v17 zZ:Int):fV prog (Tx T0 R0 aG) fu aWG G H (aIB v2 v8 v9 gR mB nI Dn v17 zZ)=bif decide (4294967296 <= zZ) || decide (u64.wrap (u64.wrap (4294967296*Dn)+mB) < u64.wrap (zZ*gR)) then bif decide (4294967296 <= u64.wrap (Dn+v9)) then H (Ex.exit 2) (some (QG v2 v8 mB nI v17 (u64.wrap (zZ - 1)))) else G (some (aIB v2 v8 v9 gR mB nI (u64.wrap (Dn+v9)) v17 (u64.wrap (zZ - 1)))) else H (Ex.exit 2) (some (QG v2 v8 mB nI v17 zZ)):=by kernel_rfl
theorem aQw (fu:Nat) (v2 v8 mB nI v17 zZ:Int):aWH T0 R0 aG fu  (Ex.exit 2) (QG v2 v8 mB nI v17 zZ)=bif decide (v8 < 0) then none else some (AV.tup [.s (.pl (.int .u64 (u64.wrap (u64.wrap (nI*4294967296)+zZ)))),.s (.pl (.int .u64 (eJ .u64 (u64.wrap (u64.wrap (u64.wrap (v17*4294967296)+mB) - u64.wrap (zZ*v2))) v8)))]):=by kernel_rfl
end
section
variable (T0:Type) (R0:FA T0) (aG aO:T0->Int)
def bGU:Cg:=⟨⟨cV [(210,⟨R0,λ t=>AV.tup [.s (.pl (.int .u64 (aG t))),.s (.pl (.int .u64 (aO t)))]⟩)],[],cX⟩,[(4,[1,2,4,5],[1,2,4]),(1000004,[9],[])]⟩
theorem bGV (fu:Nat) (a0 a1 a2 a3 a4 a5 a6 a7:Int):aS prog Tryz.f207 (bGU T0 R0 aG aO) fu [W8 [a0,a1,a2,a3,a4,a5,a6,a7]]=(R0 [.int .u64 0,.int .u64 a7,.int .u64 10]).bind λ t=>(R0 [.int .u64 (aO t),.int .u64 a6,.int .u64 10]).bind λ bY=>(R0 [.int .u64 (aO bY),.int .u64 a5,.int .u64 10]).bind λ cJ=>(R0 [.int .u64 (aO cJ),.int .u64 a4,.int .u64 10]).bind λ fF=>(R0 [.int .u64 (aO fF),.int .u64 a3,.int .u64 10]).bind λ gA=>(R0 [.int .u64 (aO gA),.int .u64 a2,.int .u64 10]).bind λ gC=>(R0 [.int .u64 (aO gC),.int .u64 a1,.int .u64 10]).bind λ jJ=>(R0 [.int .u64 (aO jJ),.int .u64 a0,.int .u64 10]).bind λ nR=>some (AV.tup [.s (.pl (.agg (.ints .u64 [aG nR,aG jJ,aG gC,aG gA,aG fF,aG cJ,aG bY,aG t]) 8)),.s (.pl (.int .u8 (u8.wrap (aO nR))))]):=by kernel_rfl
end
section
variable (T0:Type) (R0:FA T0) (aG:T0->List Int) (aO:T0->Int)
def aIC:Cg:=⟨⟨cV [(207,⟨R0,λ t=>AV.tup [.s (.pl (.agg (.ints .u64 (aG t)) 8)),.s (.pl (.int .u8 (aO t)))]⟩)],[3],efs [(208,(Fu aGY))]⟩,[(3,[1,3],[2])]⟩
def aAT (n3:Nat) (aQ:List Int) (eM:Nat) (bC:List Int):St:={ tm:=[(1,.s (.ptr 0 0 8)),(3,.s (.own 1 n3 1))],hp:=[(0,{ ty:=27,n:=8,row:=Row.t (.ints .u64 aQ) }),(1,{ ty:=5,n:=eM,row:=Row.t (.ints .u8 bC) })],nx:=2,sz:=22 }
def aID:Code:=cN (bN [1,1,2] (bB Tryz.f193))
def aIE (fu:Nat):=mD prog (aIC T0 R0 aG aO) fu [1,1,2] (bB Tryz.f193) (gI prog Tryz.f193)
abbrev bGW (fu:Nat) (n3:Nat) (aQ:List Int) (eM:Nat) (bC:List Int):=eV prog (aIC T0 R0 aG aO) fu aID (aIE T0 R0 aG aO fu ) fu (some (aAT n3 aQ eM bC))
theorem bGX (fu:Nat) (a:List Int):aS prog Tryz.f193 (aIC T0 R0 aG aO) fu [W8 a]=bGW T0 R0 aG aO fu 0 a 0 []:=by kernel_rfl
def aIF (s2:List UInt8):St:={ tm:=[(2,.str s2)],hp:=[],nx:=0,sz:=22 }
theorem aWJ {β:Type} (fu:Nat) (G:FG β) (H:FH β) (n3:Nat) (aQ:List Int) (eM:Nat) (bC:List Int):fV prog (aIC T0 R0 aG aO) fu aID G H (aAT n3 aQ eM bC)=(R0 [.agg (.ints .u64 aQ) 8]).bind λ t=>bif decide (n3+1 <= 1099511627776) then bif decide (aG t=[0,0,0,0,0,0,0,0]) then bif decide (n3+1 <= 1099511627776) then H Ex.ret (some (aIF (List.map b8 (bC++[u8.wrap (48+aO t)]).reverse))) else none else G (some (aAT (n3+1) (aG t) ((n3+1)*1) (bC++[u8.wrap (48+aO t)]))) else none:=by kernel_rfl
theorem aIG (fu:Nat) (s2:List UInt8):aIE T0 R0 aG aO fu  Ex.ret (aIF s2)=some (AV.str s2):=by kernel_rfl
end
section
variable (T0:Type) (R0:FA T0) (aG:T0->List Int) (T1:Type) (R1:FA T1) (aM:T1->List Int) (bK:T1->Bool) (T2:Type) (R2:FA T2) (bE:T2->List Int) (bU:T2->Bool)
def Ty:Cg:=⟨⟨cV [(109,⟨R0,λ t=>AV.agg (.ints .u64 (aG t)) 8⟩),(153,⟨R1,λ t=>AV.tup [.s (.pl (.agg (.ints .u64 (aM t)) 8)),.s (.pl (.bool (bK t)))]⟩),(83,⟨R2,λ t=>AV.tup [.s (.pl (.agg (.ints .u64 (bE t)) 8)),.s (.pl (.bool (bU t)))]⟩)],[],cX⟩,[(6,[0,2,4,25,26],[0,2,3,4]),(12,[0,2,4,42,43],[2,3,4])]⟩
def aAU (s0:Str) (v25 v26:Int) (aQ bC:List Int):St:={ tm:=[(0,.str s0),(2,.s (.ptr 0 0 8)),(4,.s (.ptr 1 0 8)),(25,.int .i64 v25),(26,.int .i64 v26)],hp:=[(0,{ ty:=27,n:=8,row:=Row.t (.ints .u64 aQ) }),(1,{ ty:=27,n:=8,row:=Row.t (.ints .u64 bC) })],nx:=2,sz:=73 }
def aIH:Code:=cN (bN [1,1,1,0,1,2] (bB Tryz.f116))
def aAV (fu:Nat):=mD prog (Ty T0 R0 aG T1 R1 aM bK T2 R2 bE bU) fu [1,1,1,0,1,2] (bB Tryz.f116) (gI prog Tryz.f116)
abbrev aII (fu:Nat) (s0:Str) (v25 v26:Int) (aQ bC:List Int):=eV prog (Ty T0 R0 aG T1 R1 aM bK T2 R2 bE bU) fu aIH (aAV T0 R0 aG T1 R1 aM bK T2 R2 bE bU fu ) fu (some (aAU s0 v25 v26 aQ bC))
theorem bGY (fu:Nat) (s:Str):aS prog Tryz.f116 (Ty T0 R0 aG T1 R1 aM bK T2 R2 bE bU) fu [.str s]=bif decide (s=[]) then some (AV.tup [.s (.pl (.agg (.ints .u64 [0,0,0,0,0,0,0,0]) 8)),.s (.pl (.int .i64 4))]) else bif decide (1 < (↑(List.length s):Int)) then bif decide ((0:Int) <= 0 /\ 0 < (↑(List.length s):Int)) then bif decide ((↑(List.getD s (Int.toNat 0) (0:UInt8)).toNat:Int)=48) then some (AV.tup [.s (.pl (.agg (.ints .u64 [0,0,0,0,0,0,0,0]) 8)),.s (.pl (.int .i64 4))]) else aII T0 R0 aG T1 R1 aM bK T2 R2 bE bU fu s (↑(List.length s):Int) 0 [0,0,0,0,0,0,0,0] [0,0,0,0,0,0,0,0] else none else aII T0 R0 aG T1 R1 aM bK T2 R2 bE bU fu s (↑(List.length s):Int) 0 [0,0,0,0,0,0,0,0] [0,0,0,0,0,0,0,0]:=by kernel_rfl
def Xd (s0:Str) (v3:Int) (aQ bC:List Int):St:={ tm:=[(0,.str s0),(2,.s (.ptr 0 0 8)),(3,.int .i64 v3),(4,.s (.ptr 1 0 8))],hp:=[(0,{ ty:=27,n:=8,row:=Row.t (.ints .u64 aQ) }),(1,{ ty:=27,n:=8,row:=Row.t (.ints .u64 bC) })],nx:=2,sz:=73 }
def aAW (s0:Str) (aQ bC:List Int):St:={ tm:=[(0,.str s0),(2,.s (.ptr 0 0 8)),(3,.s SV.junk),(4,.s (.ptr 1 0 8))],hp:=[(0,{ ty:=27,n:=8,row:=Row.t (.ints .u64 aQ) }),(1,{ ty:=27,n:=8,row:=Row.t (.ints .u64 bC) })],nx:=2,sz:=73 }
theorem aWK {β:Type} (fu:Nat) (G:FG β) (H:FH β) (s0:Str) (v25 v26:Int) (aQ bC:List Int):fV prog (Ty T0 R0 aG T1 R1 aM bK T2 R2 bE bU) fu aIH G H (aAU s0 v25 v26 aQ bC)=bif decide (v26 < v25) then bif decide (0 <= v26 /\ v26 < (↑(List.length s0):Int)) then bif decide ((↑(List.getD s0 v26.toNat (0:UInt8)).toNat:Int) < 48) then H Ex.ret (some (Xd s0 4 [0,0,0,0,0,0,0,0] bC)) else bif decide (0 <= v26 /\ v26 < (↑(List.length s0):Int)) then bif decide (57 < (↑(List.getD s0 v26.toNat (0:UInt8)).toNat:Int)) then H Ex.ret (some (Xd s0 4 [0,0,0,0,0,0,0,0] bC)) else G (some (aAU s0 v25 (i64.wrap (v26+1)) aQ bC)) else none else none else H (Ex.exit 0) (some (aAW s0 aQ bC)):=by kernel_rfl
theorem aIJ (fu:Nat) (s0:Str) (v3:Int) (aQ bC:List Int):aAV T0 R0 aG T1 R1 aM bK T2 R2 bE bU fu  Ex.ret (Xd s0 v3 aQ bC)=some (AV.tup [.s (.pl (.agg (.ints .u64 aQ) 8)),.s (.pl (.int .i64 v3))]):=by kernel_rfl
def aAX (s0:Str) (v42 v43:Int) (aQ bC:List Int):St:={ tm:=[(0,.str s0),(2,.s (.ptr 0 0 8)),(4,.s (.ptr 1 0 8)),(42,.int .i64 v42),(43,.int .i64 v43)],hp:=[(0,{ ty:=27,n:=8,row:=Row.t (.ints .u64 aQ) }),(1,{ ty:=27,n:=8,row:=Row.t (.ints .u64 bC) })],nx:=2,sz:=73 }
def aIK:Code:=cN (bN [1,1,1,1,0,1,2] (bB Tryz.f116))
def aAY (fu:Nat):=mD prog (Ty T0 R0 aG T1 R1 aM bK T2 R2 bE bU) fu [1,1,1,1,0,1,2] (bB Tryz.f116) (gI prog Tryz.f116)
abbrev aWL (fu:Nat) (s0:Str) (v42 v43:Int) (aQ bC:List Int):=eV prog (Ty T0 R0 aG T1 R1 aM bK T2 R2 bE bU) fu aIK (aAY T0 R0 aG T1 R1 aM bK T2 R2 bE bU fu ) fu (some (aAX s0 v42 v43 aQ bC))
theorem aQx (fu:Nat) (s0:Str) (aQ bC:List Int):aAV T0 R0 aG T1 R1 aM bK T2 R2 bE bU fu  (Ex.exit 0) (aAW s0 aQ bC)=aWL T0 R0 aG T1 R1 aM bK T2 R2 bE bU fu s0 (↑(List.length s0):Int) 0 aQ bC:=by kernel_rfl
def aIL (v3:Int) (aQ bC:List Int):St:={ tm:=[(2,.s (.ptr 0 0 8)),(3,.int .i64 v3),(4,.s (.ptr 1 0 8))],hp:=[(0,{ ty:=27,n:=8,row:=Row.t (.ints .u64 aQ) }),(1,{ ty:=27,n:=8,row:=Row.t (.ints .u64 bC) })],nx:=2,sz:=73 }
def aAZ (aQ bC:List Int):St:={ tm:=[(2,.s (.ptr 0 0 8)),(3,.s SV.junk),(4,.s (.ptr 1 0 8))],hp:=[(0,{ ty:=27,n:=8,row:=Row.t (.ints .u64 aQ) }),(1,{ ty:=27,n:=8,row:=Row.t (.ints .u64 bC) })],nx:=2,sz:=73 }
theorem aWM {β:Type} (fu:Nat) (G:FG β) (H:FH β) (s0:Str) (v42 v43:Int) (aQ bC:List Int):fV prog (Ty T0 R0 aG T1 R1 aM bK T2 R2 bE bU) fu aIK G H (aAX s0 v42 v43 aQ bC)=bif decide (v43 < v42) then (R0 [.int .u64 10]).bind λ t=>(R1 [.agg (.ints .u64 bC) 8,.agg (.ints .u64 (aG t)) 8]).bind λ t=>bif decide (0 <= v43 /\ v43 < (↑(List.length s0):Int)) then (R0 [.int .u64 (u64.wrap (u8.wrap ((↑(List.getD s0 v43.toNat (0:UInt8)).toNat:Int) - 48)))]).bind λ bY=>(R2 [.agg (.ints .u64 (aM t)) 8,.agg (.ints .u64 (aG bY)) 8]).bind λ cJ=>bif !bK t || !bU cJ then H Ex.ret (some (aIL 7 [0,0,0,0,0,0,0,0] bC)) else G (some (aAX s0 v42 (i64.wrap (v43+1)) aQ (bE cJ))) else none else H (Ex.exit 2) (some (aAZ aQ bC)):=by kernel_rfl
theorem bBp (fu:Nat) (v3:Int) (aQ bC:List Int):aAY T0 R0 aG T1 R1 aM bK T2 R2 bE bU fu  Ex.ret (aIL v3 aQ bC)=some (AV.tup [.s (.pl (.agg (.ints .u64 aQ) 8)),.s (.pl (.int .i64 v3))]):=by kernel_rfl
theorem aQy (fu:Nat) (aQ bC:List Int):aAY T0 R0 aG T1 R1 aM bK T2 R2 bE bU fu  (Ex.exit 2) (aAZ aQ bC)=some (AV.tup [.s (.pl (.agg (.ints .u64 bC) 8)),.s (.pl (.int .i64 0))]):=by kernel_rfl
end
def aIM:Cg:=⟨⟨cV [(116,vQ),(193,aAb),(82,aOP)],[],cX⟩,[]⟩
theorem bBq (fu:Nat):aS prog Tryz.f179 aIM fu []=some (AV.bool (decide ((65:Int)=65))):=by kernel_rfl
abbrev bGZ:Cg:=bGP (Nat) aG7 (λ t=>↑t)
theorem bBr:CfOk prog bGZ.c:=gk <| aA TV <| aH
theorem bG0:CallOk prog 211 sLZ:=by
 refine fO bBr Tryz.func211 ?_;intro args t ht;unfold sLZ at ht;simp only at ht;split at ht
 ·rename_i x;obtain ⟨h1,h2⟩:=bA ht;cases h2;have hx:0 <= x /\ x < 18446744073709551616:=by simpa [iV] using h1
  obtain ⟨n,rfl⟩:=bZ hx.1;refine (bGQ _ _ _ _ _).trans ?_;have hb:bl n <= 64:=Ny (by omega:n < 2 ^ 64);rw [show aG7 [AV.int u64 (n:Int)]=some (bl n) from Nz n (by omega),aC,bW (by omega) (by omega)];rw [show (64 - (bl n:Int))=((64 - bl n:Nat):Int) by omega];rfl
 ·cases ht
theorem bBs (n:Nat) (h:n < 18446744073709551616):rLZ [.int .u64 (n:Int)]=some (64 - bl n):=by
 have:iV (n:Int)=true:=by simp [iV]; omega
 simp only [rLZ,sLZ,this,aB,bD]
abbrev bG1:Cg:=Tx (Nat) rLZ (λ t=>↑t)
theorem bBt:CfOk prog bG1.c:=gk <| aA bG0 <| aH
theorem wu (x:Int):u64.wrap x=x%18446744073709551616:=by
 simp only [IntKind.wrap,IntKind.signed,IntKind.bits];simp
theorem aWN (q1 rh un1:Nat) (h1:un1 < 4294967296) (hrl:rh < 2684354560) (hq:q1 < 4294967296):(decide ((4294967296:Int) <= (q1:Int)) || decide (u64.wrap (u64.wrap ((4294967296:Int)*(rh:Int))+(un1:Int)) < u64.wrap ((q1:Int)*((0:Nat):Int))))=false:=by
 have e1:u64.wrap ((q1:Int)*((0:Nat):Int))=0:=by rw [wu]; simp
 have e2:u64.wrap ((4294967296:Int)*(rh:Int))=(4294967296:Int)*(rh:Int):=by rw [wu]; omega
 have e3:u64.wrap ((4294967296:Int)*(rh:Int)+(un1:Int))=(4294967296:Int)*(rh:Int)+(un1:Int):=by rw [wu]; omega
 rw [e1,e2,e3,aJ (by omega:¬ (4294967296:Int) <= (q1:Int)),aJ (by omega)];rfl
theorem bG2 (un32 un1 q1 rh un21:Nat) (hr:un32=q1*2684354560+rh) (hrl:rh < 2684354560) (h1:un1 < 4294967296) (hu:un21=rh*4294967296+un1) :
  u64.wrap (u64.wrap (u64.wrap (((un32:Nat):Int)*(4294967296:Int))+(un1:Int)) - u64.wrap ((q1:Int)*((11529215046068469760:Nat):Int)))=((un21:Nat):Int):=by
 have e:((11529215046068469760:Nat):Int)=11529215046068469760:=rfl;subst hr; subst hu;rw [wu,wu,wu,wu,e];omega
theorem aWO (un21 q0 rh0:Nat) (h:un21=q0*2684354560+rh0) (hl:rh0 < 2684354560) (hq:q0 < 4294967296):u64.wrap (((un21:Nat):Int).tdiv ((2684354560:Nat):Int))=((q0:Nat):Int):=by
 have e:((2684354560:Nat):Int)=2684354560:=rfl;rw [qH (by omega),wu,e];omega
theorem aWP (un21 q0 rh0:Nat) (h:un21=q0*2684354560+rh0) (hl:rh0 < 2684354560) (hq:q0 < 4294967296):u64.wrap (((un21:Nat):Int) - u64.wrap (((q0:Nat):Int)*((2684354560:Nat):Int)))=((rh0:Nat):Int):=by
 have e:((2684354560:Nat):Int)=2684354560:=rfl;rw [wu,wu,e];omega
theorem bG3 (q1 q0:Nat) (hq:q1 < 4294967296) (hq0:q0 < 4294967296):u64.wrap (u64.wrap ((q1:Int)*(4294967296:Int))+(q0:Int))=((q1*4294967296+q0:Nat):Int):=by
 rw [wu,wu];omega
theorem bG4 (un21 q0 rh0:Nat) (h:un21=q0*2684354560+rh0) (hl:rh0 < 2684354560):u64.wrap (u64.wrap (u64.wrap (((un21:Nat):Int)*(4294967296:Int))+((0:Nat):Int)) - u64.wrap ((q0:Int)*((11529215046068469760:Nat):Int)))=((rh0*4294967296:Nat):Int):=by
 have e:((11529215046068469760:Nat):Int)=11529215046068469760:=rfl;subst h;rw [wu,wu,wu,wu,e];omega
theorem aIN (T0:Type) (R0:FA T0) (aG:T0->Int) (un32 un1 q1 rh un21 q0 rh0:Nat) (h1:un1 < 4294967296) (hq:q1 < 4294967296) (hq0:q0 < 4294967296) (hr:un32=q1*2684354560+rh) (hrl:rh < 2684354560)
  (hu:un21=rh*4294967296+un1) (hr0:un21=q0*2684354560+rh0) (hrl0:rh0 < 2684354560) :
  aIA T0 R0 aG 2 ((11529215046068469760:Nat):Int) ((60:Nat):Int) ((2684354560:Nat):Int) ((0:Nat):Int) (un32:Int) (un1:Int) ((0:Nat):Int) (q1:Int) (rh:Int) =
   some (AV.tup [.s (.pl (.int .u64 ((q1*4294967296+q0:Nat):Int))),.s (.pl (.int .u64 ((rh0*4294967296 / 2 ^ 60:Nat):Int)))]):=by
 rw [aIA,aF,bGS,aWN q1 rh un1 h1 hrl hq,aE,aR];rw [aQv,aJ (by decide:¬ ((2684354560:Nat):Int)=0),aE,bG2 un32 un1 q1 rh un21 hr hrl h1 hu,aWO un21 q0 rh0 hr0 hrl0 hq0,aWP un21 q0 rh0 hr0 hrl0 hq0];rw [aWI,aF,bGT,aWN q0 rh0 0 (by decide) hrl0 hq0,aE,aR];rw [aQw,aJ (by decide:¬ ((60:Nat):Int) < 0),aE,bG3 q1 q0 hq hq0,bG4 un21 q0 rh0 hr0 hrl0,pF _ _ (by decide)]
theorem bJy (h l:Nat) (hh:h < 10) (hl:l < 18446744073709551616):Fv .u64 (mE .u64 (h:Int) ((60:Nat):Int)) (eJ .u64 (l:Int) ((4:Nat):Int))=((h*1152921504606846976+l / 16:Nat):Int):=by
 rw [Gw _ _ (by decide),pF _ _ (by decide)];have a1:h*2 ^ 60%18446744073709551616=2 ^ 60*h:=by omega
 rw [a1,Sn _ _ (by omega) (by omega)];have:=Au (i:=60) (b:=l / 2 ^ 4) (by omega) h;rw [<-this,show 2 ^ 60*h+l / 2 ^ 4=h*1152921504606846976+l / 16 by omega]
theorem bJz (l:Nat) (hl:l < 18446744073709551616):mE .u64 (l:Int) ((60:Nat):Int)=((l%16*1152921504606846976:Nat):Int):=by
 rw [Gw _ _ (by decide),show l*2 ^ 60%18446744073709551616=l%16*1152921504606846976 by omega]
theorem bG5 (l:Nat):eJ .u64 ((l%16*1152921504606846976:Nat):Int) ((32:Nat):Int)=((l%16*268435456:Nat):Int):=by
 rw [pF _ _ (by decide),show l%16*1152921504606846976 / 2 ^ 32=l%16*268435456 by omega]
theorem bG6 (l:Nat):fH .u64 ((l%16*1152921504606846976:Nat):Int) 4294967295=((0:Nat):Int):=by
 rw [aDf _ (by omega),show l%16*1152921504606846976%4294967296=0 by omega]
theorem aQz (h l un32 un1 q1 rh un21 q0 rh0:Nat) (hh:h < 10) (hl:l < 18446744073709551616) (e1:un32=h*1152921504606846976+l / 16) (e2:un1=l%16*268435456) (e3:q1=un32 / 2684354560) (e4:rh=un32 - q1*2684354560) (e5:un21=rh*4294967296+un1) (e6:q0=un21 / 2684354560) (e7:rh0=un21 - q0*2684354560) :
  un32 < 18446744073709551616 /\ un1 < 4294967296 /\ q1 < 4294967296 /\ q0 < 4294967296 /\ un32=q1*2684354560+rh /\ rh < 2684354560 /\ un21=q0*2684354560+rh0 /\ rh0 < 2684354560 /\ q1*4294967296+q0=(h*18446744073709551616+l) / 10 /\ rh0*4294967296 / 2 ^ 60=(h*18446744073709551616+l)%10:=by
 omega
theorem aIO:CallOk prog 210 KX:=by
 refine aZ (fu:=λ _=>2) bBt Tryz.func210 ?_;intro args t ht;unfold KX at ht;simp only at ht;split at ht
 case h_2=>cases ht
 rename_i x y z;obtain ⟨h1,h2⟩:=bA ht;cases h2;simp only [aW,bJ,iV] at h1;obtain ⟨⟨rfl,hx⟩,hy⟩:=h1;obtain ⟨h,rfl⟩:=bZ hx.1;obtain ⟨l,rfl⟩:=bZ hy.1;clear ht;have hh:h < 10:=by omega
 have hl:l < 18446744073709551616:=by omega
 refine (bGR _ _ _ _ _ _ _).trans ?_;rw [aJ (by decide:¬ (10:Int)=0),aE,aJ (by omega:¬ (10:Int) <= (h:Int)),aE,aE];have f1:((h:Int)*18446744073709551616+l) / 10=(((h*18446744073709551616+l) / 10:Nat):Int):=by omega
 have f2:((h:Int)*18446744073709551616+l)%10=(((h*18446744073709551616+l)%10:Nat):Int):=by omega
 rw [f1,f2];simp only [KX];clear f1 f2 hx hy;by_cases h0:h=0
 ·subst h0;rw [aD (by rfl:((0:Nat):Int)=0),aB,qH (by omega),mQ (by omega),Zf (by omega) (by omega)];rw [show (l:Int) / 10=((l / 10:Nat):Int) by omega,show (l:Int)%10=((l%10:Nat):Int) by omega,HB,bT,aE]
 ·rw [aJ (by omega:¬ ((h:Nat):Int)=0),aE];rw [show (10:Int)=((10:Nat):Int) from rfl,bBs 10 (by decide),aC];have b10:64 - bl 10=60:=by decide +kernel
  have w60:u64.wrap ((60:Nat):Int)=((60:Nat):Int):=by decide +kernel
  have w4:u64.wrap (64 - ((60:Nat):Int))=((4:Nat):Int):=by decide +kernel
  have ey:mE .u64 ((10:Nat):Int) ((60:Nat):Int)=((11529215046068469760:Nat):Int):=by decide +kernel
  have e9:eJ .u64 ((11529215046068469760:Nat):Int) 32=((2684354560:Nat):Int):=by decide +kernel
  have e10:fH .u64 ((11529215046068469760:Nat):Int) 4294967295=((0:Nat):Int):=by decide +kernel
  rw [b10,w60,w4,ey,e9,e10,bJy h l hh hl,bJz l hl,show (32:Int)=((32:Nat):Int) from rfl,bG5,bG6];rw [aJ (by decide:¬ ((4:Nat):Int) < 0),aE,aJ (by decide:¬ ((2684354560:Nat):Int)=0),aE];obtain ⟨un32,hu⟩:∃ u,u=h*1152921504606846976+l / 16:=⟨_,rfl⟩;obtain ⟨un1,hu1⟩:∃ u,u=l%16*268435456:=⟨_,rfl⟩;rw [<-hu,<-hu1];obtain ⟨q1,hq⟩:∃ u,u=un32 / 2684354560:=⟨_,rfl⟩;obtain ⟨rh,hr⟩:∃ u,u=un32 - q1*2684354560:=⟨_,rfl⟩;obtain ⟨un21,hm⟩:∃ u,u=rh*4294967296+un1:=⟨_,rfl⟩;obtain ⟨q0,hq0⟩:∃ u,u=un21 / 2684354560:=⟨_,rfl⟩;obtain ⟨rh0,hr0⟩:∃ u,u=un21 - q0*2684354560:=⟨_,rfl⟩;obtain ⟨p0,p1,p2,p3,p4,p5,p6,p7,p8,p9⟩:=aQz h l un32 un1 q1 rh un21 q0 rh0 hh hl hu hu1 hq hr hm hq0 hr0;rw [aWO un32 q1 rh p4 p5 p2,aWP un32 q1 rh p4 p5 p2,aJ (by decide:¬ ((60:Nat):Int) < 0),aE,aE,aE];refine (aIN _ _ _ un32 un1 q1 rh un21 q0 rh0 p1 p2 p3 p4 p5 hm p6 p7).trans ?_;rw [p8,p9]
abbrev bG7:Cg:=bGU (Int × Int) Pi (λ t=>t.fst) (λ t=>t.snd)
theorem bBu:CfOk prog bG7.c:=gk <| aA aIO <| aH
theorem aEn (h l:Nat) (hh:h < 10) (hl:l < 18446744073709551616):Pi [.int .u64 (h:Int),.int .u64 (l:Int),.int .u64 10]=some ((((h*18446744073709551616+l) / 10:Nat):Int),(((h*18446744073709551616+l)%10:Nat):Int)):=by
 have h1:decide (0 <= (h:Int) /\ (h:Int) < 10)=true:=aD (by omega);have h2:iV (l:Int)=true:=by simp [iV]; omega
 simp only [Pi,KX,h1,h2,qP,mO,aB];have f1:((h:Int)*18446744073709551616+l) / 10=(((h*18446744073709551616+l) / 10:Nat):Int):=by omega
 have f2:((h:Int)*18446744073709551616+l)%10=(((h*18446744073709551616+l)%10:Nat):Int):=by omega
 rw [f1,f2]
theorem Ba {b q s' s:Nat} {B Q:List Int} (h:val B=10*val Q+s') (e:s'*18446744073709551616+b=10*q+s):val ((b:Int) :: B)=10*val ((q:Int) :: Q)+s:=by
 simp only [val,bD]; omega
theorem aIP:CallOk prog 207 W9:=by
 refine fO bBu Tryz.func207 ?_;intro args t ht;obtain ⟨a,rfl,ha,rfl⟩:=w9 ht;obtain ⟨a0,a1,a2,a3,a4,a5,a6,a7,rfl⟩:=zT ha;have hk:=wQ ha;simp only [tU,aW,bJ] at hk;obtain ⟨h0,h1,h2,h3,h4,h5,h6,h7,_⟩:=hk;obtain ⟨b0,rfl⟩:=bZ h0.1;obtain ⟨b1,rfl⟩:=bZ h1.1;obtain ⟨b2,rfl⟩:=bZ h2.1;obtain ⟨b3,rfl⟩:=bZ h3.1;obtain ⟨b4,rfl⟩:=bZ h4.1;obtain ⟨b5,rfl⟩:=bZ h5.1;obtain ⟨b6,rfl⟩:=bZ h6.1;obtain ⟨b7,rfl⟩:=bZ h7.1;refine (bGV _ _ _ _ _ _ _ _ _ _ _ _ _).trans ?_;clear ht ha;have l0:b0 < 18446744073709551616:=by omega
 have l1:b1 < 18446744073709551616:=by omega
 have l2:b2 < 18446744073709551616:=by omega
 have l3:b3 < 18446744073709551616:=by omega
 have l4:b4 < 18446744073709551616:=by omega
 have l5:b5 < 18446744073709551616:=by omega
 have l6:b6 < 18446744073709551616:=by omega
 have l7:b7 < 18446744073709551616:=by omega
 clear h0 h1 h2 h3 h4 h5 h6 h7;have step:∀ (r b:Nat),r < 10->b < 18446744073709551616->∃ q s,s < 10 /\ r*18446744073709551616+b=10*q+s /\ q < 18446744073709551616 /\ Pi [.int .u64 (r:Int),.int .u64 (b:Int),.int .u64 10]=some ((q:Int),(s:Int)):=by
  intro r b hr hb;exact ⟨_,_,bH _ (by decide),(eI _ 10).symm,by omega,aEn r b hr hb⟩
 obtain ⟨q7,s7,c7,e7,d7,r7⟩:=step 0 b7 (by decide) l7;obtain ⟨q6,s6,c6,e6,d6,r6⟩:=step s7 b6 c7 l6;obtain ⟨q5,s5,c5,e5,d5,r5⟩:=step s6 b5 c6 l5;obtain ⟨q4,s4,c4,e4,d4,r4⟩:=step s5 b4 c5 l4;obtain ⟨q3,s3,c3,e3,d3,r3⟩:=step s4 b3 c4 l3;obtain ⟨q2,s2,c2,e2,d2,r2⟩:=step s3 b2 c3 l2;obtain ⟨q1,s1,c1,e1,d1,r1⟩:=step s2 b1 c2 l1;obtain ⟨q0,s0,c0,e0,d0,r0⟩:=step s1 b0 c1 l0;clear step;rw [show (0:Int)=((0:Nat):Int) from rfl];simp only [r7,r6,r5,r4,r3,r2,r1,r0,aC];have ev:val [(b0:Int),(b1:Int),(b2:Int),(b3:Int),(b4:Int),(b5:Int),(b6:Int),(b7:Int)]=10*val [(q0:Int),(q1:Int),(q2:Int),(q3:Int),(q4:Int),(q5:Int),(q6:Int),(q7:Int)]+s0:=by
  exact Ba (Ba (Ba (Ba (Ba (Ba (Ba (Ba (B:=[]) (Q:=[]) rfl e7) e6) e5) e4) e3) e2) e1) e0
 have eq:val [(b0:Int),(b1:Int),(b2:Int),(b3:Int),(b4:Int),(b5:Int),(b6:Int),(b7:Int)] / 10=val [(q0:Int),(q1:Int),(q2:Int),(q3:Int),(q4:Int),(q5:Int),(q6:Int),(q7:Int)]:=by
  rw [ev]; omega
 have er:val [(b0:Int),(b1:Int),(b2:Int),(b3:Int),(b4:Int),(b5:Int),(b6:Int),(b7:Int)]%10=s0:=by
  rw [ev]; omega
 have ok:gK [(q0:Int),(q1:Int),(q2:Int),(q3:Int),(q4:Int),(q5:Int),(q6:Int),(q7:Int)]=true:=by
  simp only [gK,tU,aW,bJ];refine ⟨rfl,?_,?_,?_,?_,?_,?_,?_,?_,trivial⟩ <;> omega
 have w8:u8.wrap (s0:Int)=(s0:Int):=by rw [qD]; omega
 simp only [W9,eq,er,oA ok,w8]
theorem N9 {a:List Int} (ha:gK a=true):XA [W8 a]=some (val a / 10,val a%10):=lN (λ a=>(val a / 10,val a%10)) ha
abbrev aWQ:Cg:=aIC (Nat × Nat) XA (λ t=>cM 8 t.fst) (λ t=>↑t.snd)
theorem bBv:CfOk prog aWQ.c:=⟨aA aIP <| aH,zE aOM <| C2⟩
theorem sA (q:Nat) (h:q < gD):cM 8 q=[0,0,0,0,0,0,0,0] ↔ q=0:=by
 constructor
 ·intro e;have:=dW val e;rw [mN,aY h] at this;rw [this]; rfl
 ·intro e; subst e; exact i7
theorem aQA:∀ (f n q m:Nat) (xs:List Int),f < n->q < 10 ^ (f+1)->q < gD->xs.length+f < 1099511627776 ->
  eV prog aWQ 201 aID (aIE _ XA (λ t=>cM 8 t.1) (λ t=>(t.2:Int)) 201) n (some (aAT xs.length (cM 8 q) m xs))=some (.str ((xs++aD7 (f+1) q).reverse.map b8)):=by
 intro f
 induction f with
 | zero=>
  intro n q m xs hn hq hM hl;obtain ⟨n,rfl⟩:=aP (by omega:n ≠ 0);have hw:u8.wrap (48+((q%10:Nat):Int))=(48+(q%10:Nat):Int):=by
   rw [show (48+((q%10:Nat):Int))=((48+q%10:Nat):Int) by omega,qD]; omega
  rw [aF,aWJ,show AV.agg (TRow.ints u64 (cM 8 q)) 8=W8 (cM 8 q) from rfl,N9 (cL q),mN,aY hM,aC,aD (by omega:xs.length+1 <= 1099511627776),aB];have h0:q / 10=0:=by omega
  rw [aD ((sA _ (by omega)).2 h0),aB,aB,aR,aIG];simp only [aD7,h0,lK,hw]
 | succ f ih=>
  intro n q m xs hn hq hM hl;obtain ⟨n,rfl⟩:=aP (by omega:n ≠ 0);have hw:u8.wrap (48+((q%10:Nat):Int))=(48+(q%10:Nat):Int):=by
   rw [show (48+((q%10:Nat):Int))=((48+q%10:Nat):Int) by omega,qD]; omega
  rw [aF,aWJ,show AV.agg (TRow.ints u64 (cM 8 q)) 8=W8 (cM 8 q) from rfl,N9 (cL q),mN,aY hM,aC,aD (by omega:xs.length+1 <= 1099511627776),aB];by_cases h0:q / 10=0
  ·rw [aD ((sA _ (by omega)).2 h0),aB,aB,aR,aIG];simp only [aD7,h0,lK,hw]
  ·rw [aJ (λ e=>h0 ((sA _ (by omega)).1 e)),aE];have:=ih n (q / 10) ((xs.length+1)*1) (xs++[u8.wrap (48+((q%10:Nat):Int))]) (by omega) (by rw [bM] at hq; omega) (by omega) (by simp; omega);rw [cD,show [u8.wrap (48+((q%10:Nat):Int))].length=1 from rfl] at this;refine this.trans ?_;rw [hw,iO];simp only [aD7,h0,oK,KH]
theorem aQB:gD < 10 ^ 200:=by decide +kernel
theorem aEo:CallOk prog 193 aAb:=by
 refine aZ (fu:=λ _=>201) bBv Tryz.func193 ?_;intro args t ht;obtain ⟨a,rfl,ha,rfl⟩:=w9 ht;refine (bGX _ _ _ _ _ _).trans ?_;have va:=Aj ha;have:=aQA 199 201 (val a) 0 [] (by decide) (cZ va aQB) va (by decide);rw [oA ha] at this;exact this
abbrev aIQ:Cg:=Ty (Int) Wr (λ t=>[t,0,0,0,0,0,0,0]) (Nat × Bool) W7 (λ t=>cM 8 t.fst) (λ t=>t.snd) (Nat × Bool) NP (λ t=>cM 8 t.fst) (λ t=>t.snd)
theorem bBw:CfOk prog aIQ.c:=gk <| aA WW <| aA aNG <| aA Zi <| aH
theorem Xe (n:Nat) (h:n < 18446744073709551616):Wr [.int .u64 (n:Int)]=some (n:Int):=by
 simp only [Wr,sOf]
theorem yL {s:Str} (i:Nat) (h:i < s.length):s.drop i=s.getD i 0 :: s.drop (i+1):=by
 rw [NB h];simp [List.getD,h]
theorem aQC (fu:Nat) (s:Str) (x0 x1:List Int) (v25:Int) (hv:v25=(s.length:Int)) (hl:s.length <= 1099511627776):∀ (k n i:Nat),s.length - i=k->k < n->i <= s.length ->
  eV prog aIQ fu aIH (aAV _ Wr (λ t=>[t,0,0,0,0,0,0,0]) _ W7 (λ t=>cM 8 t.1) (λ t=>t.2) _ NP (λ t=>cM 8 t.1) (λ t=>t.2) fu) n (some (aAU s v25 (i:Int) x0 x1)) =
   cond ((s.drop i).all qU) (aWL _ Wr (λ t=>[t,0,0,0,0,0,0,0]) _ W7 (λ t=>cM 8 t.1) (λ t=>t.2) _ NP (λ t=>cM 8 t.1) (λ t=>t.2) fu s (s.length:Int) 0 x0 x1) (some (.tup [.s (.pl (.agg (.ints .u64 iT) 8)),.s (.pl (.int .i64 4))])):=by
 intro k
 induction k with
 | zero=>
  intro n i hk hn hi;obtain ⟨n,rfl⟩:=aP (by omega:n ≠ 0);have e:i=s.length:=by omega
  subst e;rw [aF,aWK,hv,aJ (by omega),aE,aR,aQx,S9];rfl
 | succ k ih=>
  intro n i hk hn hi;obtain ⟨n,rfl⟩:=aP (by omega:n ≠ 0);have hb:0 <= (i:Int) /\ (i:Int) < (s.length:Int):=by omega
  rw [aF,aWK,aD (by omega:(i:Int) < v25),aB,aD hb,aB,aB,bD];rw [yL i (by omega),Cb];have hd:qU (s.getD i 0)=(decide (48 <= (s.getD i 0).toNat) && decide ((s.getD i 0).toNat <= 57)):=by
   have hble:∀ a b:Nat,Nat.ble a b=decide (a <= b):=λ a b=>by
    cases h:Nat.ble a b
    ·rw [aJ λ hle=>by rw [lY hle] at h; cases h]
    ·rw [aD (dA h)]
   simp only [qU,hble]
  rw [hd];by_cases h1:(s.getD i 0).toNat < 48
  ·rw [aD (by omega:(((s.getD i 0).toNat:Nat):Int) < 48),aB,aR,aIJ,aJ (by omega:¬ 48 <= (s.getD i 0).toNat)];rfl
  ·rw [aJ (by omega:¬ (((s.getD i 0).toNat:Nat):Int) < 48),aE];by_cases h2:57 < (s.getD i 0).toNat
   ·rw [aD (by omega:(57:Int) < (((s.getD i 0).toNat:Nat):Int)),aB,aR,aIJ,aJ (by omega:¬ (s.getD i 0).toNat <= 57),S6];rfl
   ·rw [aJ (by omega:¬ (57:Int) < (((s.getD i 0).toNat:Nat):Int)),aE,bW (by omega) (by omega)];rw [aD (by omega:48 <= (s.getD i 0).toNat),aD (by omega:(s.getD i 0).toNat <= 57)];exact ih n (i+1) (by omega) (by omega) (by omega)
theorem aQD:∀ (s:Str) (n:Nat),n <= wW n s:=by
 intro s
 induction s with
 | nil=>intro n; exact bX _
 | cons c r ih=>intro n; exact dC (by omega) (ih (n*10+(c.toNat - 48)))
theorem bG8 (n:Nat):gK [((n:Nat):Int),0,0,0,0,0,0,0]=true ↔ n < 18446744073709551616:=by
 simp [gK,tU]; omega
theorem aIR (n:Nat):val [((n:Nat):Int),0,0,0,0,0,0,0]=n:=by simp [val]
theorem bBx (fu:Nat) (s:Str) (x0:List Int) (v42:Int) (hv:v42=(s.length:Int)) (hl:s.length <= 1099511627776):∀ (k n i v:Nat),s.length - i=k->k < n->i <= s.length->v < gD->(s.drop i).all qU=true ->
  eV prog aIQ fu aIK (aAY _ Wr (λ t=>[t,0,0,0,0,0,0,0]) _ W7 (λ t=>cM 8 t.1) (λ t=>t.2) _ NP (λ t=>cM 8 t.1) (λ t=>t.2) fu) n (some (aAX s v42 (i:Int) x0 (cM 8 v))) =
   cond (Nat.blt (wW v (s.drop i)) gD) (some (.tup [.s (.pl (.agg (.ints .u64 (cM 8 (wW v (s.drop i)))) 8)),.s (.pl (.int .i64 0))])) (some (.tup [.s (.pl (.agg (.ints .u64 iT) 8)),.s (.pl (.int .i64 7))])):=by
 intro k
 induction k with
 | zero=>
  intro n i v hk hn hi hM _;obtain ⟨n,rfl⟩:=aP (by omega:n ≠ 0);have e:i=s.length:=by omega
  subst e;have hb:Nat.blt v gD=true:=by simp [cY]; exact hM
  rw [aF,aWM,hv,aJ (by omega),aE,aR,aQy,S9];show _=cond (Nat.blt v gD) _ _;rw [hb]; rfl
 | succ k ih=>
  intro n i v hk hn hi hM hall;obtain ⟨n,rfl⟩:=aP (by omega:n ≠ 0);have hb:0 <= (i:Int) /\ (i:Int) < (s.length:Int):=by omega
  rw [yL i (by omega),Cb,aW] at hall;obtain ⟨hd,hall⟩:=hall;have hdig:48 <= (s.getD i 0).toNat /\ (s.getD i 0).toNat <= 57:=by
   simp only [qU,aW] at hd;exact ⟨dA hd.1,dA hd.2⟩
  have hw:u64.wrap (u8.wrap ((((s.getD i 0).toNat:Nat):Int) - 48))=(((s.getD i 0).toNat - 48:Nat):Int):=by
   rw [show ((((s.getD i 0).toNat:Nat):Int) - 48)=(((s.getD i 0).toNat - 48:Nat):Int) by omega,qD,aY (by omega),gP,aY (by omega)]
  have hten:gK [((10:Nat):Int),0,0,0,0,0,0,0]=true:=by decide
  rw [aF,aWM,aD (by omega:(i:Int) < v42),aB,show (10:Int)=((10:Nat):Int) from rfl,Xe 10 (by decide),aC];rw [show AV.agg (TRow.ints u64 (cM 8 v)) 8=W8 (cM 8 v) from rfl,show AV.agg (TRow.ints u64 [((10:Nat):Int),0,0,0,0,0,0,0]) 8=W8 [((10:Nat):Int),0,0,0,0,0,0,0] from rfl,aAa (cL v) hten,aC,aNF,mN,aY hM,aIR];rw [aD hb,aB,bD,hw,Xe _ (by omega),aC];rw [show ∀ x,AV.agg (TRow.ints u64 (cM 8 x)) 8=W8 (cM 8 x) from λ _=>rfl,show ∀ x:Int,AV.agg (TRow.ints u64 [x,0,0,0,0,0,0,0]) 8=W8 [x,0,0,0,0,0,0,0] from λ _=>rfl,Pf (cL _) ((bG8 _).2 (by omega)),aC,Zg,mN,aIR];have edv:wW v (s.drop i)=wW (v*10+((s.getD i 0).toNat - 48)) (s.drop (i+1)):=by rw [yL i (by omega)]; rfl
  rw [edv];by_cases h1:v*10+((s.getD i 0).toNat - 48) < gD
  ·have h2:v*10 < gD:=by omega
   rw [aY h2,aD h2,aD h1];simp only [iD,Bool.or_self,aE];rw [bW (by omega) (by omega)];exact ih n (i+1) _ (by omega) (by omega) (by omega) h1 hall
  ·have hbig:Nat.blt (wW (v*10+((s.getD i 0).toNat - 48)) (s.drop (i+1))) gD=false:=by
    have:=aQD (s.drop (i+1)) (v*10+((s.getD i 0).toNat - 48));cases hc:Nat.blt (wW (v*10+((s.getD i 0).toNat - 48)) (s.drop (i+1))) gD
    ·rfl
    ·have:=dA hc;omega
   have hc:(!decide (v*10 < gD) || !decide (v*10%gD+((s.getD i 0).toNat - 48) < gD))=true:=by
    by_cases h2:v*10 < gD
    ·rw [aY h2,aJ h1]; simp
    ·rw [aJ h2]; rfl
   rw [hbig,hc,aB,aR,bBp,aE]
theorem EL:CallOk prog 116 vQ:=by
 refine aZ (fu:=λ args=>match args with | [.c (.s (.pl (.str s)))]=>s.length+1 | _=>0) bBw Tryz.func116 ?_;intro args t ht;unfold vQ at ht;simp only at ht;split at ht
 case h_2=>cases ht
 rename_i s;obtain ⟨hl,h2⟩:=bA ht;have hl:s.length <= 1099511627776:=vA hl;cases h2;refine (bGY _ _ _ _ _ _ _ _ _ _ _ _ _).trans ?_;have main:s ≠ []->aII _ Wr (λ t=>[t,0,0,0,0,0,0,0]) _ W7 (λ t=>cM 8 t.1) (λ t=>t.2) _ NP (λ t=>cM 8 t.1) (λ t=>t.2) (s.length+1) s (s.length:Int) 0 iT iT =
   cond (s.all qU) (cond (Nat.blt (wW 0 s) gD) (some (.tup [.s (.pl (.agg (.ints .u64 (cM 8 (wW 0 s))) 8)),.s (.pl (.int .i64 0))])) (some (.tup [.s (.pl (.agg (.ints .u64 iT) 8)),.s (.pl (.int .i64 7))]))) (some (.tup [.s (.pl (.agg (.ints .u64 iT) 8)),.s (.pl (.int .i64 4))])):=by
  intro hne;refine (aQC (s.length+1) s iT iT _ rfl hl s.length (s.length+1) 0 (by omega) (by omega) (by omega)).trans ?_;rw [gL];cases hall:s.all qU
  ·rfl
  ·rw [aB,aB];have:=bBx (s.length+1) s iT _ rfl hl s.length (s.length+1) 0 0 (by omega) (by omega) (by omega) KU (by rw [gL]; exact hall);rw [i7,gL] at this;exact this
 show _=some (vQ.enc (z8 s));have enc:∀ a b,vQ.enc (a,b)=.tup [.s (.pl (.agg (.ints .u64 (cM 8 a)) 8)),.s (.pl (.int .i64 b))]:=λ _ _=>rfl
 match s,hl,main with
 | [],_,_=>rfl
 | [c],_,main=>
  rw [aJ (by simp:¬ [c]=[]),aE];have h1:¬ (1:Int) < (([c]:Str).length:Int):=by simp
  rw [aJ h1,aE];refine (main (by simp)).trans ?_;simp only [z8,yY,Cb,List.all_nil,H9];cases qU c
  ·simp only [aE,enc,i7]
  ·simp only [aB];cases Nat.blt (wW 0 [c]) gD
   ·simp only [aE,enc,i7]
   ·simp only [aB,enc]
 | c :: d :: r,_,main=>
  rw [aJ (by simp:¬ c :: d :: r=[]),aE];have h1:(1:Int) < (((c :: d :: r:Str)).length:Int):=by simp; omega
  have h2:(0:Int) <= 0 /\ (0:Int) < (((c :: d :: r:Str)).length:Int):=by simp; omega
  rw [aD h1,aB,aD h2,aB];have hg:List.getD (c :: d :: r) (Int.toNat 0) 0=c:=rfl;rw [hg];have hc:decide (((c.toNat:Nat):Int)=48)=Nat.beq c.toNat 48:=by
   rw [M7]; simp [Nat.beq_eq]; omega
  rw [hc];simp only [z8,yY];cases hb:Nat.beq c.toNat 48
  ·simp only [aE,jB,mO];refine (main (by simp)).trans ?_;rw [Cb];cases (qU c && (d :: r).all qU)
   ·simp only [aE,enc,i7]
   ·simp only [aB];cases Nat.blt (wW 0 (c :: d :: r)) gD
    ·simp only [aE,enc,i7]
    ·simp only [aB,enc]
  ·simp only [aB,iD,tY,aE,enc,i7]
theorem IU {s:Str} (h:s.length <= 1099511627776):FE [.str s]=some (z8 s):=by
 simp only [FE,vQ,h,qP,aB]
theorem aQE:CfOk prog aIM.c:=gk <| aA EL <| aA aEo <| aA W6 <| aH
theorem Xf:CallOk prog 179 gE:=by
 refine pC (g:=aIM) (fu:=λ _=>0) kD aQE Tryz.func179 (by kernel_rfl) ?_;intro args t ht;unfold gE at ht;simp only at ht;split at ht
 ·cases ht; exact (bBq 0).trans rfl
 ·cases ht
end
end Go.Eng
