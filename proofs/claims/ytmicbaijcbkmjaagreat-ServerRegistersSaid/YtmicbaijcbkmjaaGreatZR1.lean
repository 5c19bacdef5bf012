import Derived.Test.YtmicbaijcbkmjaaGreatZL2
namespace Go.Eng
open Go.IntKind (u64 i64 u8)
noncomputable section
set_option linter.all false
def vB:List Int->Nat
 | []=>0
 | x :: r=>x.toNat+256*vB r
def jE:List Int->Bool
 | []=>true
 | x :: r=>decide (0 <= x /\ x < 256) && jE r
def cA:List Int->Nat
 | []=>0
 | x :: r=>match cA r with
  | 0=>if x=0 then 0 else 1
  | n+1=>n+2
def lH (l:List Int):List Int:=l.take (cA l)
def ZW:Nat->Nat->List Int
 | 0,_=>[]
 | f+1,n=>if n=0 then [] else ((n%256:Nat):Int) :: ZW f (n / 256)
def nb (n:Nat):List Int:=ZW (n.log2 / 8+1) n
def lo:Nat->Nat->List Int
 | 0,_=>[]
 | k+1,n=>((n%256:Nat):Int) :: lo k (n / 256)
theorem i4 (k n:Nat):(lo k n).length=k:=by
 induction k generalizing n with
 | zero=>rfl
 | succ k ih=>simp [lo,ih]
theorem sW (k n:Nat):jE (lo k n)=true:=by
 induction k generalizing n with
 | zero=>rfl
 | succ k ih=>simp only [lo,jE,ih,Fo,bG]; omega
theorem GC (k n:Nat):vB (lo k n)=n%256 ^ k:=by
 induction k generalizing n with
 | zero=>simp [lo,vB,uV]
 | succ k ih=>
  simp only [lo,vB,ih,bE];rw [bM,cG (256 ^ k),uU]
theorem Ic:∀ a:List Int,jE a=true->lo a.length (vB a)=a:=by
 intro a
 induction a with
 | nil=>intro _; rfl
 | cons x r ih=>
  intro h;simp only [jE,aX,bG] at h;simp only [fF,lo,vB];have e1:(x.toNat+256*vB r)%256=x.toNat:=by omega
  have e2:(x.toNat+256*vB r) / 256=vB r:=by omega
  rw [e1,e2,ih h.2];congr 1; omega
theorem GD:∀ a:List Int,jE a=true->vB a < 256 ^ a.length:=by
 intro a
 induction a with
 | nil=>intro _; simp [vB]
 | cons x r ih=>
  intro h;simp only [jE,aX,bG] at h;have:=ih h.2;simp only [fF,vB,bM];omega
theorem aC4 (a b:List Int):vB (a++b)=vB a+256 ^ a.length*vB b:=by
 induction a with
 | nil=>simp [vB]
 | cons x r ih=>
  simp only [Fr,vB,ih,fF,bM];rw [uW,cG (256 ^ r.length) 256,d9]; omega
theorem V6 {a b:List Int}:jE (a++b)=(jE a && jE b):=by
 induction a with
 | nil=>simp [jE]
 | cons x r ih=>simp [jE,ih,Bool.and_assoc]
theorem oW (l:List Int):cA l <= l.length:=by
 induction l with
 | nil=>simp [cA]
 | cons x r ih=>
  simp only [cA,fF];split
  ·split <;> omega
  ·rename_i n h; rw [h] at ih; omega
theorem rT (l:List Int):(lH l).length=cA l:=by
 rw [lH,dV]; exact Ef (oW l)
theorem xM (x:Int) (r:List Int):lH (x :: r)=match lH r with
  | []=>if x=0 then [] else [x]
  | y :: t=>x :: y :: t:=by
 have hl:=rT r;unfold lH at *;simp only [cA];cases h:cA r with
 | zero=>
  simp only [uR];split <;> simp
 | succ n=>
  rw [h] at hl;cases ht:r.take (n+1) with
  | nil=>rw [ht] at hl; simp at hl
  | cons y t=>simp only [yT,ht]
theorem Mt:∀ {l:List Int},jE l=true->(vB l=0 ↔ lH l=[]):=by
 intro l
 induction l with
 | nil=>intro _; simp [vB,lH]
 | cons x r ih=>
  intro h;simp only [jE,aX,bG] at h;have ih:=ih h.2;rw [xM];cases ht:lH r with
  | nil=>
   have hv:=ih.2 ht;simp only [vB,hv];by_cases hx:x=0
   ·simp [hx]
   ·simp only [hx,mB]; constructor
    ·intro e; omega
    ·intro e; cases e
  | cons y t=>
   have:vB r ≠ 0:=λ e=>by rw [ih.1 e] at ht; cases ht
   simp only [vB];constructor
   ·intro e; omega
   ·intro e; cases e
theorem aC5:∀ (l:List Int) (f:Nat),jE l=true->vB l < 256 ^ f->ZW f (vB l)=lH l:=by
 intro l
 induction l with
 | nil=>intro f _ _; cases f <;> simp [ZW,vB,lH]
 | cons x r ih=>
  intro f h hf;have hz:=Mt (l:=x :: r) h;simp only [jE,aX,bG] at h;cases f with
  | zero=>
   have:vB (x :: r)=0:=by simpa using hf
   rw [hz.1 this]; rfl
  | succ f=>
   simp only [ZW];by_cases h0:vB (x :: r)=0
   ·rw [aT h0,hz.1 h0]
   ·rw [aW h0];have e1:vB (x :: r)%256=x.toNat:=by simp only [vB]; omega
    have e2:vB (x :: r) / 256=vB r:=by simp only [vB]; omega
    rw [e1,e2,ih f h.2 (by rw [bM] at hf; simp only [vB] at hf; omega),xM];have ex:((x.toNat:Nat):Int)=x:=by omega
    cases ht:lH r with
    | nil=>
     have hv:=(Mt h.2).2 ht;have:x ≠ 0:=λ e=>h0 (by simp only [vB,hv,e]; rfl);rw [ex]; simp [this]
    | cons y t=>rw [ex]
theorem A0 (n:Nat):n < 256 ^ (n.log2 / 8+1):=by
 have h1:n < 2 ^ (n.log2+1):=Nat.lt_log2_self;refine cU h1 ?_;rw [show (256:Nat)=2 ^ 8 from rfl,<-jK];exact iK (by decide) (by omega)
theorem V7 {l:List Int} (h:jE l=true):nb (vB l)=lH l:=aC5 l _ h (A0 _)
theorem V8 {k n:Nat} (h:n < 256 ^ k):nb n=lH (lo k n):=by
 have:=V7 (sW k n);rw [GC,aV h] at this; exact this
theorem aC6 {l:List Int} (h:jE l=true):jE (lH l)=true:=by
 induction l with
 | nil=>rfl
 | cons x r ih=>
  simp only [jE,aX] at h;have ih:=ih h.2;rw [xM];cases ht:lH r with
  | nil=>simp only []; split <;> simp [jE,h.1]
  | cons y t=>rw [ht] at ih; simp only [jE,h.1,jX]; simpa [jE] using ih
theorem aJC {l:List Int} (h:jE l=true):vB (lH l)=vB l:=by
 induction l with
 | nil=>rfl
 | cons x r ih=>
  have h2:=h;simp only [jE,aX] at h2;have ih:=ih h2.2;rw [xM];cases ht:lH r with
  | nil=>
   have hv:=(Mt h2.2).2 ht;simp only [];split
   ·rename_i e; simp [vB,hv,e]
   ·simp [vB,hv]
  | cons y t=>rw [ht] at ih; simp only [vB] at ih ⊢; omega
theorem CW (n:Nat):jE (nb n)=true:=by
 rw [V8 (A0 n)]; exact aC6 (sW _ _)
theorem fY (n:Nat):vB (nb n)=n:=by
 rw [V8 (A0 n),aJC (sW _ _),GC,aV (A0 n)]
theorem Id (n:Nat):cA (nb n)=(nb n).length:=by
 have h:=V7 (CW n);rw [fY] at h;have:=dQ List.length h;rw [rT] at this; exact this.symm
theorem xN {n k:Nat} (h:n < 256 ^ k):(nb n).length <= k:=by
 rw [V8 h,rT];have:=oW (lo k n);rw [i4] at this; exact this
theorem A1:nb 0=[]:=by decide
theorem sX (n:Nat):(nb n).length=0 ↔ n=0:=by
 constructor
 ·intro h;have:nb n=[]:=oB h;have:=dQ vB this;rw [fY] at this; exact this
 ·intro h; subst h; rw [A1]; rfl
theorem aXP {l:List Int} (h:jE l=true) (ht:cA l=l.length):nb (vB l)=l:=by
 rw [V7 h,lH,ht,Ec]
theorem K2 {n k:Nat} (h:k < (nb n).length):256 ^ k <= n:=by
 rcases pS n (256 ^ k) with h1 | h1
 ·have:=xN h1; omega
 ·exact h1
theorem rJ (n:Nat):n < 256 ^ (nb n).length:=by
 have:=GD (nb n) (CW n);rwa [fY] at this
theorem A2 (k n i:Nat) (h:i < k):(lo k n).getD i 0=((n / 256 ^ i%256:Nat):Int):=by
 induction k generalizing n i with
 | zero=>omega
 | succ k ih=>
  cases i with
  | zero=>simp [lo]
  | succ i=>
   simp only [lo,As];rw [ih _ _ (by omega),bM,cG (256 ^ i),gR]
theorem Ie (n:Nat):nb n=lo (nb n).length n:=by
 have:=Ic (nb n) (CW n);rw [fY] at this; exact this.symm
theorem aJD (n i:Nat) (h:i < (nb n).length):(nb n).getD i 0=((n / 256 ^ i%256:Nat):Int):=by
 rw [Ie];rw [A2 _ _ _ h]
open Go Go.Proofs
def K3 (a:List Int) (n:Nat):Bool:=jE a && Nat.beq (cA a) a.length && Nat.beq n a.length && Nat.ble n 1048576
def eN (t:Nat):AV:=.s (.dat (.ints .i64 (nb t)) (nb t).length 1)
def K4 {T:Type} (F:Nat->T):FA T
 | [.c (.s (.dat (.ints .i64 a) n 1))]=>cond (K3 a n) (some (F (vB a))) none
 | _=>none
def y4 {T:Type} (F:Nat->Nat->T) (C:Nat->Nat->Bool:=λ _ _=>true):FA T
 | [.c (.s (.dat (.ints .i64 a) n 1)),.c (.s (.dat (.ints .i64 b) m 1))]=>cond (K3 a n && K3 b m && C (vB a) (vB b)) (some (F (vB a) (vB b))) none
 | _=>none
def aC7:Summ where
 T:=Nat
 run:=λ
  | [.c (.s (.dat (.ints .i64 a) n 1))]=>cond (jE a && Nat.beq n a.length && Nat.ble n 4194304) (some (vB a)) none
  | _=>none
 enc:=eN
def wB:FA Nat:=aC7.run
def E5:TRow->Nat->Nat->FA (Bool × AV × TRow)
 | .ints .i64 xs,n,1,[]=>some (decide (n <= 1099511627776),.s (.sub 0 0 (cA xs) 1),.ints .i64 xs)
 | _,_,_,_=>none
def vS (s:Str):Nat:=vB (s.map lO)
def Mu:Summ where
 T:=Nat
 run:=λ
  | [.c (.s (.pl (.str s)))]=>cond (decide (s.length <= 1048576)) (some (vS s)) none
  | _=>none
 enc:=eN
def z7:FA Nat:=Mu.run
def A3:Summ where
 T:=Nat
 run:=λ
  | [.c (.s (.pl (.int .u64 n)))]=>cond (hO n) (some n.toNat) none
  | _=>none
 enc:=eN
def wC:FA Nat:=A3.run
def V9:Summ:={ T:=Int,run:=y4 qO,enc:=λ t=>.int .i64 t }
def nE:FA Int:=V9.run
def WA:FA Nat
 | [.c (.s (.dat (.ints .i64 a) n 1)),.c (.s (.dat (.ints .i64 b) m 1))]=>cond (jE a && Nat.beq n a.length && Nat.ble n 1048576 && K3 b m) (some (vB a+vB b)) none
 | _=>none
def DP:Summ:={ T:=Nat,run:=WA,enc:=eN }
def jF:FA Nat:=DP.run
def WB:Summ:={ T:=Nat,run:=y4 (λ a b=>a - b) λ a b=>Nat.ble b a,enc:=eN }
def pF:FA Nat:=WB.run
def WC:Summ:={ T:=Nat,run:=y4 λ a b=>a*b,enc:=eN }
def uA:FA Nat:=WC.run
def Mv:Summ where
 T:=Nat
 run:=λ
  | [.c (.s (.dat (.ints .i64 a) n 1)),.c (.s (.pl (.int .i64 i)))]=>cond (K3 a n && decide (-9223372036854775808 <= i /\ i < 9223372036854775808)) (some (mH (vB a) i)) none
  | _=>none
 enc:=λ t=>.int .i64 (t:Int)
def pG:FA Nat:=Mv.run
def WD:Summ:={ T:=Nat,run:=K4 bl,enc:=λ t=>.int .i64 (t:Int) }
def A4:FA Nat:=WD.run
def WE:Summ:={ T:=Nat × Nat,run:=y4 (λ a b=>(a / b,a%b)) λ a b=>Nat.blt 0 b && Nat.ble (nb a).length 1000000 && Nat.ble (nb b).length 1000000,enc:=λ t=>.tup [.s (.dat (.ints .i64 (nb t.1)) (nb t.1).length 1),.s (.dat (.ints .i64 (nb t.2)) (nb t.2).length 1)] }
def Gz:FA (Nat × Nat):=WE.run
def aSE (n v:Nat):Str:=(lo n v).map b8
def kL:Summ where
 T:=Nat × Bool
 run:=λ
  | [.c (.s (.pl (.str s)))]=>cond (decide (s.length <= 65536)) (some (cond (wA s) (tS 0 s,true) (0,false))) none
  | _=>none
 enc:=λ t=>.tup [.s (.dat (.ints .i64 (nb t.1)) (nb t.1).length 1),.s (.pl (.bool t.2))]
def z8:FA (Nat × Bool):=kL.run
def Mw:Summ where
 T:=Nat × Int
 run:=λ
  | [.c (.s (.pl (.str s)))]=>cond (decide (s.length <= 1099511627776)) (some (cond (Nat.blt 64 s.length) (0,5) (vS s,0))) none
  | _=>none
 enc:=λ t=>.tup [.s (.pl (.agg (.ints .u64 (cQ 8 t.1)) 8)),.s (.pl (.int .i64 t.2))]
def TU:FA (Nat × Int):=Mw.run
def aC8:Summ:={ T:=Str,run:=KO λ a=>aSE 64 (val a),enc:=λ t=>.str t }
section
variable (T0:Type) (R0:FA T0) (aG:T0->Int)
def aXQ:Cg:=⟨⟨dE [(134,⟨R0,λ t=>AV.int .i64 (aG t)⟩)],[],dR⟩,[]⟩
theorem aXR (fu:Nat) (x:Int):bB prog Tryz.f244 (aXQ T0 R0 aG) fu [.int .u64 x]=(R0 [.int .u64 x]).bind λ t=>some (AV.int .i64 (i64.wrap (64 - aG t))):=by kernel_rfl
end
section
variable (T0:Type) (R0:FA T0) (aG:T0->Int)
def QU:Cg:=⟨⟨dE [(244,⟨R0,λ t=>AV.int .i64 (aG t)⟩)],[],dR⟩,[(18,[2,8,9,10,11,13,14,15,16],[2,8,9,10,11,13,14,15]),(25,[2,8,9,10,14,15,16,17,18],[2,8,14,15,17,18])]⟩
def aC9 (v2 v8 v9 fP gF tR lQ lW B1:Int):St:={ tm:=[(2,.int .u64 v2),(8,.int .u64 v8),(9,.int .u64 v9),(10,.int .u64 fP),(11,.int .u64 gF),(13,.int .u64 tR),(14,.int .u64 lQ),(15,.int .u64 lW),(16,.int .u64 B1)],hp:=[],nx:=0,sz:=135 }
def aOA:Code:=cM (bN [1,1,1,1,1,1,1,1,1,1,1,1,1,1,0,2] (bD Tryz.f243))
def aOB (fu:Nat):=lP prog (QU T0 R0 aG) fu [1,1,1,1,1,1,1,1,1,1,1,1,1,1,0,2] (bD Tryz.f243) (fT prog Tryz.f243)
abbrev aDa (fu:Nat) (v2 v8 v9 fP gF tR lQ lW B1:Int):=eS prog (QU T0 R0 aG) fu aOA (aOB T0 R0 aG fu ) fu (some (aC9 v2 v8 v9 fP gF tR lQ lW B1))
theorem aXS (fu:Nat) (x y z:Int):bB prog Tryz.f243 (QU T0 R0 aG) fu [.int .u64 x,.int .u64 y,.int .u64 z]=bif decide (z=0) then none else bif decide (z <= x) then none else bif decide (x=0) then bif decide (z=0) then none else bif decide (z=0) then none else some (AV.tup [.s (.pl (.int .u64 (u64.wrap (y.tdiv z)))),.s (.pl (.int .u64 (y.tmod z)))]) else (R0 [.int .u64 z]).bind λ t=>bif decide (u64.wrap (aG t) < 0) then none else bif decide (u64.wrap (aG t) < 0) then none else bif decide (u64.wrap (64 - u64.wrap (aG t)) < 0) then none else bif decide (u64.wrap (aG t) < 0) then none else bif decide (eK .u64 (j9 .u64 z (u64.wrap (aG t))) (32:Int)=0) then none else aDa T0 R0 aG fu (j9 .u64 z (u64.wrap (aG t))) (u64.wrap (aG t)) (eK .u64 (j9 .u64 z (u64.wrap (aG t))) 32) (d8 .u64 (j9 .u64 z (u64.wrap (aG t))) 4294967295) (Du .u64 (j9 .u64 x (u64.wrap (aG t))) (eK .u64 y (u64.wrap (64 - u64.wrap (aG t))))) (eK .u64 (j9 .u64 y (u64.wrap (aG t))) 32) (d8 .u64 (j9 .u64 y (u64.wrap (aG t))) 4294967295) (u64.wrap ((Du .u64 (j9 .u64 x (u64.wrap (aG t))) (eK .u64 y (u64.wrap (64 - u64.wrap (aG t))))).tdiv (eK .u64 (j9 .u64 z (u64.wrap (aG t))) 32))) (u64.wrap (Du .u64 (j9 .u64 x (u64.wrap (aG t))) (eK .u64 y (u64.wrap (64 - u64.wrap (aG t)))) - u64.wrap (u64.wrap ((Du .u64 (j9 .u64 x (u64.wrap (aG t))) (eK .u64 y (u64.wrap (64 - u64.wrap (aG t))))).tdiv (eK .u64 (j9 .u64 z (u64.wrap (aG t))) 32))*eK .u64 (j9 .u64 z (u64.wrap (aG t))) 32))):=by kernel_rfl
def Mx (v2 v8 v9 fP gF tR lQ lW:Int):St:={ tm:=[(2,.int .u64 v2),(8,.int .u64 v8),(9,.int .u64 v9),(10,.int .u64 fP),(11,.int .u64 gF),(13,.int .u64 tR),(14,.int .u64 lQ),(15,.int .u64 lW)],hp:=[],nx:=0,sz:=135 }
theorem aXT {β:Type} (fu:Nat) (G:FG β) (H:FH β) (v2 v8 v9 fP gF tR lQ lW B1:Int):fI prog (QU T0 R0 aG) fu aOA G H (aC9 v2 v8 v9 fP gF tR lQ lW B1)=bif decide (4294967296 <= lW) || decide (u64.wrap (u64.wrap (4294967296*B1)+tR) < u64.wrap (lW*fP)) then bif decide (4294967296 <= u64.wrap (B1+v9)) then H (Ex.exit 0) (some (Mx v2 v8 v9 fP gF tR lQ (u64.wrap (lW - 1)))) else G (some (aC9 v2 v8 v9 fP gF tR lQ (u64.wrap (lW - 1)) (u64.wrap (B1+v9)))) else H (Ex.exit 0) (some (Mx v2 v8 v9 fP gF tR lQ lW)):=by kernel_rfl
def aDb (v2 v8 v9 fP lQ lW B1 v17 xB:Int):St:={ tm:=[(2,.int .u64 v2),(8,.int .u64 v8),(9,.int .u64 v9),(10,.int .u64 fP),(14,.int .u64 lQ),(15,.int .u64 lW),(16,.int .u64 B1),(17,.int .u64 v17),(18,.int .u64 xB)],hp:=[],nx:=0,sz:=135 }
def aOC:Code:=cM (bN [1,1,1,1,1,1,1,1,1,1,1,1,1,1,1,1,1,1,0,2] (bD Tryz.f243))
def aOD (fu:Nat):=lP prog (QU T0 R0 aG) fu [1,1,1,1,1,1,1,1,1,1,1,1,1,1,1,1,1,1,0,2] (bD Tryz.f243) (fT prog Tryz.f243)
abbrev aOE (fu:Nat) (v2 v8 v9 fP lQ lW B1 v17 xB:Int):=eS prog (QU T0 R0 aG) fu aOC (aOD T0 R0 aG fu ) fu (some (aDb v2 v8 v9 fP lQ lW B1 v17 xB))
theorem aJE (fu:Nat) (v2 v8 v9 fP gF tR lQ lW:Int):aOB T0 R0 aG fu  (Ex.exit 0) (Mx v2 v8 v9 fP gF tR lQ lW)=bif decide (v9=0) then none else aOE T0 R0 aG fu v2 v8 v9 fP lQ lW (u64.wrap (u64.wrap (u64.wrap (u64.wrap (gF*4294967296)+tR) - u64.wrap (lW*v2)) - u64.wrap (u64.wrap ((u64.wrap (u64.wrap (u64.wrap (gF*4294967296)+tR) - u64.wrap (lW*v2))).tdiv v9)*v9))) (u64.wrap (u64.wrap (u64.wrap (gF*4294967296)+tR) - u64.wrap (lW*v2))) (u64.wrap ((u64.wrap (u64.wrap (u64.wrap (gF*4294967296)+tR) - u64.wrap (lW*v2))).tdiv v9)):=by kernel_rfl
def My (v2 v8 lQ lW v17 xB:Int):St:={ tm:=[(2,.int .u64 v2),(8,.int .u64 v8),(14,.int .u64 lQ),(15,.int .u64 lW),(17,.int .u64 v17),(18,.int .u64 xB)],hp:=[],nx:=0,sz:=135 }
theorem aXU {β:Type} (fu:Nat) (G:FG β) (H:FH β) (v2 v8 v9 fP lQ lW B1 v17 xB:Int):fI prog (QU T0 R0 aG) fu aOC G H (aDb v2 v8 v9 fP lQ lW B1 v17 xB)=bif decide (4294967296 <= xB) || decide (u64.wrap (u64.wrap (4294967296*B1)+lQ) < u64.wrap (xB*fP)) then bif decide (4294967296 <= u64.wrap (B1+v9)) then H (Ex.exit 2) (some (My v2 v8 lQ lW v17 (u64.wrap (xB - 1)))) else G (some (aDb v2 v8 v9 fP lQ lW (u64.wrap (B1+v9)) v17 (u64.wrap (xB - 1)))) else H (Ex.exit 2) (some (My v2 v8 lQ lW v17 xB)):=by kernel_rfl
theorem aJF (fu:Nat) (v2 v8 lQ lW v17 xB:Int):aOD T0 R0 aG fu  (Ex.exit 2) (My v2 v8 lQ lW v17 xB)=bif decide (v8 < 0) then none else some (AV.tup [.s (.pl (.int .u64 (u64.wrap (u64.wrap (lW*4294967296)+xB)))),.s (.pl (.int .u64 (eK .u64 (u64.wrap (u64.wrap (u64.wrap (v17*4294967296)+lQ) - u64.wrap (xB*v2))) v8)))]):=by kernel_rfl
end
section
variable (T0:Type) (R0:FA T0) (aG aM:T0->Int)
def aXV:Cg:=⟨⟨dE [(243,⟨R0,λ t=>AV.tup [.s (.pl (.int .u64 (aG t))),.s (.pl (.int .u64 (aM t)))]⟩)],[],dR⟩,[(4,[1,2,4,5],[1,2,4]),(1000004,[9],[])]⟩
theorem aXW (fu:Nat) (a0 a1 a2 a3 a4 a5 a6 a7:Int):bB prog Tryz.f240 (aXV T0 R0 aG aM) fu [W8 [a0,a1,a2,a3,a4,a5,a6,a7]]=(R0 [.int .u64 0,.int .u64 a7,.int .u64 10]).bind λ t=>(R0 [.int .u64 (aM t),.int .u64 a6,.int .u64 10]).bind λ dH=>(R0 [.int .u64 (aM dH),.int .u64 a5,.int .u64 10]).bind λ eU=>(R0 [.int .u64 (aM eU),.int .u64 a4,.int .u64 10]).bind λ gE=>(R0 [.int .u64 (aM gE),.int .u64 a3,.int .u64 10]).bind λ gT=>(R0 [.int .u64 (aM gT),.int .u64 a2,.int .u64 10]).bind λ gJ=>(R0 [.int .u64 (aM gJ),.int .u64 a1,.int .u64 10]).bind λ kA=>(R0 [.int .u64 (aM kA),.int .u64 a0,.int .u64 10]).bind λ vI=>some (AV.tup [.s (.pl (.agg (.ints .u64 [aG vI,aG kA,aG gJ,aG gT,aG gE,aG eU,aG dH,aG t]) 8)),.s (.pl (.int .u8 (u8.wrap (aM vI))))]):=by kernel_rfl
end
section
variable (T0:Type) (R0:FA T0) (aG:T0->List Int) (aM:T0->Int)
def aDc:Cg:=⟨⟨dE [(240,⟨R0,λ t=>AV.tup [.s (.pl (.agg (.ints .u64 (aG t)) 8)),.s (.pl (.int .u8 (aM t)))]⟩)],[3],efs [(241,(EZ aCB))]⟩,[(3,[1,3],[2])]⟩
def WF (n3:Nat) (aQ:List Int) (dP:Nat) (bA:List Int):St:={ tm:=[(1,.s (.ptr 0 0 8)),(3,.s (.own 1 n3 1))],hp:=[(0,{ ty:=32,n:=8,row:=Row.t (.ints .u64 aQ) }),(1,{ ty:=5,n:=dP,row:=Row.t (.ints .u8 bA) })],nx:=2,sz:=22 }
def aDd:Code:=cM (bN [1,1,2] (bD Tryz.f232))
def aDe (fu:Nat):=lP prog (aDc T0 R0 aG aM) fu [1,1,2] (bD Tryz.f232) (fT prog Tryz.f232)
abbrev aXX (fu:Nat) (n3:Nat) (aQ:List Int) (dP:Nat) (bA:List Int):=eS prog (aDc T0 R0 aG aM) fu aDd (aDe T0 R0 aG aM fu ) fu (some (WF n3 aQ dP bA))
theorem aXY (fu:Nat) (a:List Int):bB prog Tryz.f232 (aDc T0 R0 aG aM) fu [W8 a]=aXX T0 R0 aG aM fu 0 a 0 []:=by kernel_rfl
def aDf (s2:List UInt8):St:={ tm:=[(2,.str s2)],hp:=[],nx:=0,sz:=22 }
theorem aOF {β:Type} (fu:Nat) (G:FG β) (H:FH β) (n3:Nat) (aQ:List Int) (dP:Nat) (bA:List Int):fI prog (aDc T0 R0 aG aM) fu aDd G H (WF n3 aQ dP bA)=(R0 [.agg (.ints .u64 aQ) 8]).bind λ t=>bif decide (n3+1 <= 1099511627776) then bif decide (aG t=[0,0,0,0,0,0,0,0]) then bif decide (n3+1 <= 1099511627776) then H Ex.ret (some (aDf (List.map b8 (bA++[u8.wrap (48+aM t)]).reverse))) else none else G (some (WF (n3+1) (aG t) ((n3+1)*1) (bA++[u8.wrap (48+aM t)]))) else none:=by kernel_rfl
theorem aDg (fu:Nat) (s2:List UInt8):aDe T0 R0 aG aM fu  Ex.ret (aDf s2)=some (AV.str s2):=by kernel_rfl
end
section
variable (T0:Type) (R0:FA T0) (aG:T0->List Int) (T1:Type) (R1:FA T1) (aN:T1->List Int) (bI:T1->Bool) (T2:Type) (R2:FA T2) (bC:T2->List Int) (bW:T2->Bool)
def QV:Cg:=⟨⟨dE [(105,⟨R0,λ t=>AV.agg (.ints .u64 (aG t)) 8⟩),(163,⟨R1,λ t=>AV.tup [.s (.pl (.agg (.ints .u64 (aN t)) 8)),.s (.pl (.bool (bI t)))]⟩),(89,⟨R2,λ t=>AV.tup [.s (.pl (.agg (.ints .u64 (bC t)) 8)),.s (.pl (.bool (bW t)))]⟩)],[],dR⟩,[(6,[0,2,4,25,26],[0,2,3,4]),(12,[0,2,4,42,43],[2,3,4])]⟩
def WG (s0:Str) (v25 v26:Int) (aQ bA:List Int):St:={ tm:=[(0,.str s0),(2,.s (.ptr 0 0 8)),(4,.s (.ptr 1 0 8)),(25,.int .i64 v25),(26,.int .i64 v26)],hp:=[(0,{ ty:=32,n:=8,row:=Row.t (.ints .u64 aQ) }),(1,{ ty:=32,n:=8,row:=Row.t (.ints .u64 bA) })],nx:=2,sz:=73 }
def aDh:Code:=cM (bN [1,1,1,0,1,2] (bD Tryz.f132))
def WH (fu:Nat):=lP prog (QV T0 R0 aG T1 R1 aN bI T2 R2 bC bW) fu [1,1,1,0,1,2] (bD Tryz.f132) (fT prog Tryz.f132)
abbrev aDi (fu:Nat) (s0:Str) (v25 v26:Int) (aQ bA:List Int):=eS prog (QV T0 R0 aG T1 R1 aN bI T2 R2 bC bW) fu aDh (WH T0 R0 aG T1 R1 aN bI T2 R2 bC bW fu ) fu (some (WG s0 v25 v26 aQ bA))
theorem aXZ (fu:Nat) (s:Str):bB prog Tryz.f132 (QV T0 R0 aG T1 R1 aN bI T2 R2 bC bW) fu [.str s]=bif decide (s=[]) then some (AV.tup [.s (.pl (.agg (.ints .u64 [0,0,0,0,0,0,0,0]) 8)),.s (.pl (.int .i64 4))]) else bif decide (1 < (↑(List.length s):Int)) then bif decide ((0:Int) <= 0 /\ 0 < (↑(List.length s):Int)) then bif decide ((↑(List.getD s (Int.toNat 0) (0:UInt8)).toNat:Int)=48) then some (AV.tup [.s (.pl (.agg (.ints .u64 [0,0,0,0,0,0,0,0]) 8)),.s (.pl (.int .i64 4))]) else aDi T0 R0 aG T1 R1 aN bI T2 R2 bC bW fu s (↑(List.length s):Int) 0 [0,0,0,0,0,0,0,0] [0,0,0,0,0,0,0,0] else none else aDi T0 R0 aG T1 R1 aN bI T2 R2 bC bW fu s (↑(List.length s):Int) 0 [0,0,0,0,0,0,0,0] [0,0,0,0,0,0,0,0]:=by kernel_rfl
def TV (s0:Str) (v3:Int) (aQ bA:List Int):St:={ tm:=[(0,.str s0),(2,.s (.ptr 0 0 8)),(3,.int .i64 v3),(4,.s (.ptr 1 0 8))],hp:=[(0,{ ty:=32,n:=8,row:=Row.t (.ints .u64 aQ) }),(1,{ ty:=32,n:=8,row:=Row.t (.ints .u64 bA) })],nx:=2,sz:=73 }
def WI (s0:Str) (aQ bA:List Int):St:={ tm:=[(0,.str s0),(2,.s (.ptr 0 0 8)),(3,.s SV.junk),(4,.s (.ptr 1 0 8))],hp:=[(0,{ ty:=32,n:=8,row:=Row.t (.ints .u64 aQ) }),(1,{ ty:=32,n:=8,row:=Row.t (.ints .u64 bA) })],nx:=2,sz:=73 }
theorem aOG {β:Type} (fu:Nat) (G:FG β) (H:FH β) (s0:Str) (v25 v26:Int) (aQ bA:List Int):fI prog (QV T0 R0 aG T1 R1 aN bI T2 R2 bC bW) fu aDh G H (WG s0 v25 v26 aQ bA)=bif decide (v26 < v25) then bif decide (0 <= v26 /\ v26 < (↑(List.length s0):Int)) then bif decide ((↑(List.getD s0 v26.toNat (0:UInt8)).toNat:Int) < 48) then H Ex.ret (some (TV s0 4 [0,0,0,0,0,0,0,0] bA)) else bif decide (0 <= v26 /\ v26 < (↑(List.length s0):Int)) then bif decide (57 < (↑(List.getD s0 v26.toNat (0:UInt8)).toNat:Int)) then H Ex.ret (some (TV s0 4 [0,0,0,0,0,0,0,0] bA)) else G (some (WG s0 v25 (i64.wrap (v26+1)) aQ bA)) else none else none else H (Ex.exit 0) (some (WI s0 aQ bA)):=by kernel_rfl
theorem aDj (fu:Nat) (s0:Str) (v3:Int) (aQ bA:List Int):WH T0 R0 aG T1 R1 aN bI T2 R2 bC bW fu  Ex.ret (TV s0 v3 aQ bA)=some (AV.tup [.s (.pl (.agg (.ints .u64 aQ) 8)),.s (.pl (.int .i64 v3))]):=by kernel_rfl
def WJ (s0:Str) (v42 v43:Int) (aQ bA:List Int):St:={ tm:=[(0,.str s0),(2,.s (.ptr 0 0 8)),(4,.s (.ptr 1 0 8)),(42,.int .i64 v42),(43,.int .i64 v43)],hp:=[(0,{ ty:=32,n:=8,row:=Row.t (.ints .u64 aQ) }),(1,{ ty:=32,n:=8,row:=Row.t (.ints .u64 bA) })],nx:=2,sz:=73 }
def aDk:Code:=cM (bN [1,1,1,1,0,1,2] (bD Tryz.f132))
def WK (fu:Nat):=lP prog (QV T0 R0 aG T1 R1 aN bI T2 R2 bC bW) fu [1,1,1,1,0,1,2] (bD Tryz.f132) (fT prog Tryz.f132)
abbrev aOH (fu:Nat) (s0:Str) (v42 v43:Int) (aQ bA:List Int):=eS prog (QV T0 R0 aG T1 R1 aN bI T2 R2 bC bW) fu aDk (WK T0 R0 aG T1 R1 aN bI T2 R2 bC bW fu ) fu (some (WJ s0 v42 v43 aQ bA))
theorem aJG (fu:Nat) (s0:Str) (aQ bA:List Int):WH T0 R0 aG T1 R1 aN bI T2 R2 bC bW fu  (Ex.exit 0) (WI s0 aQ bA)=aOH T0 R0 aG T1 R1 aN bI T2 R2 bC bW fu s0 (↑(List.length s0):Int) 0 aQ bA:=by kernel_rfl
def aDl (v3:Int) (aQ bA:List Int):St:={ tm:=[(2,.s (.ptr 0 0 8)),(3,.int .i64 v3),(4,.s (.ptr 1 0 8))],hp:=[(0,{ ty:=32,n:=8,row:=Row.t (.ints .u64 aQ) }),(1,{ ty:=32,n:=8,row:=Row.t (.ints .u64 bA) })],nx:=2,sz:=73 }
def WL (aQ bA:List Int):St:={ tm:=[(2,.s (.ptr 0 0 8)),(3,.s SV.junk),(4,.s (.ptr 1 0 8))],hp:=[(0,{ ty:=32,n:=8,row:=Row.t (.ints .u64 aQ) }),(1,{ ty:=32,n:=8,row:=Row.t (.ints .u64 bA) })],nx:=2,sz:=73 }
theorem aOI {β:Type} (fu:Nat) (G:FG β) (H:FH β) (s0:Str) (v42 v43:Int) (aQ bA:List Int):fI prog (QV T0 R0 aG T1 R1 aN bI T2 R2 bC bW) fu aDk G H (WJ s0 v42 v43 aQ bA)=bif decide (v43 < v42) then (R0 [.int .u64 10]).bind λ t=>(R1 [.agg (.ints .u64 bA) 8,.agg (.ints .u64 (aG t)) 8]).bind λ t=>bif decide (0 <= v43 /\ v43 < (↑(List.length s0):Int)) then (R0 [.int .u64 (u64.wrap (u8.wrap ((↑(List.getD s0 v43.toNat (0:UInt8)).toNat:Int) - 48)))]).bind λ dH=>(R2 [.agg (.ints .u64 (aN t)) 8,.agg (.ints .u64 (aG dH)) 8]).bind λ eU=>bif !bI t || !bW eU then H Ex.ret (some (aDl 7 [0,0,0,0,0,0,0,0] bA)) else G (some (WJ s0 v42 (i64.wrap (v43+1)) aQ (bC eU))) else none else H (Ex.exit 2) (some (WL aQ bA)):=by kernel_rfl
theorem aSF (fu:Nat) (v3:Int) (aQ bA:List Int):WK T0 R0 aG T1 R1 aN bI T2 R2 bC bW fu  Ex.ret (aDl v3 aQ bA)=some (AV.tup [.s (.pl (.agg (.ints .u64 aQ) 8)),.s (.pl (.int .i64 v3))]):=by kernel_rfl
theorem aJH (fu:Nat) (aQ bA:List Int):WK T0 R0 aG T1 R1 aN bI T2 R2 bC bW fu  (Ex.exit 2) (WL aQ bA)=some (AV.tup [.s (.pl (.agg (.ints .u64 bA) 8)),.s (.pl (.int .i64 0))]):=by kernel_rfl
end
def aDm:Cg:=⟨⟨dE [(132,sV),(232,Vx),(88,aJm)],[],dR⟩,[]⟩
theorem aSG (fu:Nat):bB prog Tryz.f227 aDm fu []=some (AV.bool (decide ((65:Int)=65))):=by kernel_rfl
abbrev aX0:Cg:=aXQ (Nat) aCK (λ t=>↑t)
theorem aSH:CfOk prog aX0.c:=gk <| aA QK <| aK
theorem aX1:CallOk prog 244 sLZ:=by
 refine i7 aSH Tryz.func244 ?_;intro args t ht;unfold sLZ at ht;simp only at ht;split at ht
 ·rename_i x;obtain ⟨h1,h2⟩:=aY ht;cases h2;have hx:0 <= x /\ x < 18446744073709551616:=by simpa [hO] using h1
  obtain ⟨n,rfl⟩:=b9 hx.1;refine (aXR _ _ _ _ _).trans ?_;have hb:bl n <= 64:=IM (by omega:n < 2 ^ 64);rw [show aCK [AV.int u64 (n:Int)]=some (bl n) from Ky n (by omega),aC,bY (by omega) (by omega)];rw [show (64 - (bl n:Int))=((64 - bl n:Nat):Int) by omega];rfl
 ·cases ht
theorem aSI (n:Nat) (h:n < 18446744073709551616):rLZ [.int .u64 (n:Int)]=some (64 - bl n):=by
 have:hO (n:Int)=true:=by simp [hO]; omega
 simp only [rLZ,sLZ,this,aB,bE]
abbrev aX2:Cg:=QU (Nat) rLZ (λ t=>↑t)
theorem aSJ:CfOk prog aX2.c:=gk <| aA aX1 <| aK
theorem wu (x:Int):u64.wrap x=x%18446744073709551616:=by
 simp only [IntKind.wrap,IntKind.signed,IntKind.bits];simp
theorem aOJ (q1 rh un1:Nat) (h1:un1 < 4294967296) (hrl:rh < 2684354560) (hq:q1 < 4294967296):(decide ((4294967296:Int) <= (q1:Int)) || decide (u64.wrap (u64.wrap ((4294967296:Int)*(rh:Int))+(un1:Int)) < u64.wrap ((q1:Int)*((0:Nat):Int))))=false:=by
 have e1:u64.wrap ((q1:Int)*((0:Nat):Int))=0:=by rw [wu]; simp
 have e2:u64.wrap ((4294967296:Int)*(rh:Int))=(4294967296:Int)*(rh:Int):=by rw [wu]; omega
 have e3:u64.wrap ((4294967296:Int)*(rh:Int)+(un1:Int))=(4294967296:Int)*(rh:Int)+(un1:Int):=by rw [wu]; omega
 rw [e1,e2,e3,aH (by omega:¬ (4294967296:Int) <= (q1:Int)),aH (by omega)];rfl
theorem aX3 (un32 un1 q1 rh un21:Nat) (hr:un32=q1*2684354560+rh) (hrl:rh < 2684354560) (h1:un1 < 4294967296) (hu:un21=rh*4294967296+un1) :
  u64.wrap (u64.wrap (u64.wrap (((un32:Nat):Int)*(4294967296:Int))+(un1:Int)) - u64.wrap ((q1:Int)*((11529215046068469760:Nat):Int)))=((un21:Nat):Int):=by
 have e:((11529215046068469760:Nat):Int)=11529215046068469760:=rfl;subst hr; subst hu;rw [wu,wu,wu,wu,e];omega
theorem aOK (un21 q0 rh0:Nat) (h:un21=q0*2684354560+rh0) (hl:rh0 < 2684354560) (hq:q0 < 4294967296):u64.wrap (((un21:Nat):Int).tdiv ((2684354560:Nat):Int))=((q0:Nat):Int):=by
 have e:((2684354560:Nat):Int)=2684354560:=rfl;rw [rF (by omega),wu,e];omega
theorem aOL (un21 q0 rh0:Nat) (h:un21=q0*2684354560+rh0) (hl:rh0 < 2684354560) (hq:q0 < 4294967296):u64.wrap (((un21:Nat):Int) - u64.wrap (((q0:Nat):Int)*((2684354560:Nat):Int)))=((rh0:Nat):Int):=by
 have e:((2684354560:Nat):Int)=2684354560:=rfl;rw [wu,wu,e];omega
theorem aX4 (q1 q0:Nat) (hq:q1 < 4294967296) (hq0:q0 < 4294967296):u64.wrap (u64.wrap ((q1:Int)*(4294967296:Int))+(q0:Int))=((q1*4294967296+q0:Nat):Int):=by
 rw [wu,wu];omega
theorem aX5 (un21 q0 rh0:Nat) (h:un21=q0*2684354560+rh0) (hl:rh0 < 2684354560):u64.wrap (u64.wrap (u64.wrap (((un21:Nat):Int)*(4294967296:Int))+((0:Nat):Int)) - u64.wrap ((q0:Int)*((11529215046068469760:Nat):Int)))=((rh0*4294967296:Nat):Int):=by
 have e:((11529215046068469760:Nat):Int)=11529215046068469760:=rfl;subst h;rw [wu,wu,wu,wu,e];omega
theorem aDn (T0:Type) (R0:FA T0) (aG:T0->Int) (un32 un1 q1 rh un21 q0 rh0:Nat) (h1:un1 < 4294967296) (hq:q1 < 4294967296) (hq0:q0 < 4294967296) (hr:un32=q1*2684354560+rh) (hrl:rh < 2684354560)
  (hu:un21=rh*4294967296+un1) (hr0:un21=q0*2684354560+rh0) (hrl0:rh0 < 2684354560) :
  aDa T0 R0 aG 2 ((11529215046068469760:Nat):Int) ((60:Nat):Int) ((2684354560:Nat):Int) ((0:Nat):Int) (un32:Int) (un1:Int) ((0:Nat):Int) (q1:Int) (rh:Int) =
   some (AV.tup [.s (.pl (.int .u64 ((q1*4294967296+q0:Nat):Int))),.s (.pl (.int .u64 ((rh0*4294967296 / 2 ^ 60:Nat):Int)))]):=by
 rw [aDa,aF,aXT,aOJ q1 rh un1 h1 hrl hq,aD,aR];rw [aJE,aH (by decide:¬ ((2684354560:Nat):Int)=0),aD,aX3 un32 un1 q1 rh un21 hr hrl h1 hu,aOK un21 q0 rh0 hr0 hrl0 hq0,aOL un21 q0 rh0 hr0 hrl0 hq0];rw [aOE,aF,aXU,aOJ q0 rh0 0 (by decide) hrl0 hq0,aD,aR];rw [aJF,aH (by decide:¬ ((60:Nat):Int) < 0),aD,aX4 q1 q0 hq hq0,aX5 un21 q0 rh0 hr0 hrl0,mV _ _ (by decide)]
theorem aZ4 (h l:Nat) (hh:h < 10) (hl:l < 18446744073709551616):Du .u64 (j9 .u64 (h:Int) ((60:Nat):Int)) (eK .u64 (l:Int) ((4:Nat):Int))=((h*1152921504606846976+l / 16:Nat):Int):=by
 rw [Dc _ _ (by decide),mV _ _ (by decide)];have a1:h*2 ^ 60%18446744073709551616=2 ^ 60*h:=by omega
 rw [a1,NZ _ _ (by omega) (by omega)];have:=yV (i:=60) (b:=l / 2 ^ 4) (by omega) h;rw [<-this,show 2 ^ 60*h+l / 2 ^ 4=h*1152921504606846976+l / 16 by omega]
theorem aZ5 (l:Nat) (hl:l < 18446744073709551616):j9 .u64 (l:Int) ((60:Nat):Int)=((l%16*1152921504606846976:Nat):Int):=by
 rw [Dc _ _ (by decide),show l*2 ^ 60%18446744073709551616=l%16*1152921504606846976 by omega]
theorem aX6 (l:Nat):eK .u64 ((l%16*1152921504606846976:Nat):Int) ((32:Nat):Int)=((l%16*268435456:Nat):Int):=by
 rw [mV _ _ (by decide),show l%16*1152921504606846976 / 2 ^ 32=l%16*268435456 by omega]
theorem aX7 (l:Nat):d8 .u64 ((l%16*1152921504606846976:Nat):Int) 4294967295=((0:Nat):Int):=by
 rw [Wm _ (by omega),show l%16*1152921504606846976%4294967296=0 by omega]
theorem aJI (h l un32 un1 q1 rh un21 q0 rh0:Nat) (hh:h < 10) (hl:l < 18446744073709551616) (e1:un32=h*1152921504606846976+l / 16) (e2:un1=l%16*268435456) (e3:q1=un32 / 2684354560) (e4:rh=un32 - q1*2684354560) (e5:un21=rh*4294967296+un1) (e6:q0=un21 / 2684354560) (e7:rh0=un21 - q0*2684354560) :
  un32 < 18446744073709551616 /\ un1 < 4294967296 /\ q1 < 4294967296 /\ q0 < 4294967296 /\ un32=q1*2684354560+rh /\ rh < 2684354560 /\ un21=q0*2684354560+rh0 /\ rh0 < 2684354560 /\ q1*4294967296+q0=(h*18446744073709551616+l) / 10 /\ rh0*4294967296 / 2 ^ 60=(h*18446744073709551616+l)%10:=by
 omega
theorem aDo:CallOk prog 243 IU:=by
 refine aZ (fu:=λ _=>2) aSJ Tryz.func243 ?_;intro args t ht;unfold IU at ht;simp only at ht;split at ht
 case h_2=>cases ht
 rename_i x y z;obtain ⟨h1,h2⟩:=aY ht;cases h2;simp only [aX,bG,hO] at h1;obtain ⟨⟨rfl,hx⟩,hy⟩:=h1;obtain ⟨h,rfl⟩:=b9 hx.1;obtain ⟨l,rfl⟩:=b9 hy.1;clear ht;have hh:h < 10:=by omega
 have hl:l < 18446744073709551616:=by omega
 refine (aXS _ _ _ _ _ _ _).trans ?_;rw [aH (by decide:¬ (10:Int)=0),aD,aH (by omega:¬ (10:Int) <= (h:Int)),aD,aD];have f1:((h:Int)*18446744073709551616+l) / 10=(((h*18446744073709551616+l) / 10:Nat):Int):=by omega
 have f2:((h:Int)*18446744073709551616+l)%10=(((h*18446744073709551616+l)%10:Nat):Int):=by omega
 rw [f1,f2];simp only [IU];clear f1 f2 hx hy;by_cases h0:h=0
 ·subst h0;rw [aE (by rfl:((0:Nat):Int)=0),aB,rF (by omega),lM (by omega),Tp (by omega) (by omega)];rw [show (l:Int) / 10=((l / 10:Nat):Int) by omega,show (l:Int)%10=((l%10:Nat):Int) by omega,Nat.zero_mul,bS,aD]
 ·rw [aH (by omega:¬ ((h:Nat):Int)=0),aD];rw [show (10:Int)=((10:Nat):Int) from rfl,aSI 10 (by decide),aC];have b10:64 - bl 10=60:=by decide +kernel
  have w60:u64.wrap ((60:Nat):Int)=((60:Nat):Int):=by decide +kernel
  have w4:u64.wrap (64 - ((60:Nat):Int))=((4:Nat):Int):=by decide +kernel
  have ey:j9 .u64 ((10:Nat):Int) ((60:Nat):Int)=((11529215046068469760:Nat):Int):=by decide +kernel
  have e9:eK .u64 ((11529215046068469760:Nat):Int) 32=((2684354560:Nat):Int):=by decide +kernel
  have e10:d8 .u64 ((11529215046068469760:Nat):Int) 4294967295=((0:Nat):Int):=by decide +kernel
  rw [b10,w60,w4,ey,e9,e10,aZ4 h l hh hl,aZ5 l hl,show (32:Int)=((32:Nat):Int) from rfl,aX6,aX7];rw [aH (by decide:¬ ((4:Nat):Int) < 0),aD,aH (by decide:¬ ((2684354560:Nat):Int)=0),aD];obtain ⟨un32,hu⟩:∃ u,u=h*1152921504606846976+l / 16:=⟨_,rfl⟩;obtain ⟨un1,hu1⟩:∃ u,u=l%16*268435456:=⟨_,rfl⟩;rw [<-hu,<-hu1];obtain ⟨q1,hq⟩:∃ u,u=un32 / 2684354560:=⟨_,rfl⟩;obtain ⟨rh,hr⟩:∃ u,u=un32 - q1*2684354560:=⟨_,rfl⟩;obtain ⟨un21,hm⟩:∃ u,u=rh*4294967296+un1:=⟨_,rfl⟩;obtain ⟨q0,hq0⟩:∃ u,u=un21 / 2684354560:=⟨_,rfl⟩;obtain ⟨rh0,hr0⟩:∃ u,u=un21 - q0*2684354560:=⟨_,rfl⟩;obtain ⟨p0,p1,p2,p3,p4,p5,p6,p7,p8,p9⟩:=aJI h l un32 un1 q1 rh un21 q0 rh0 hh hl hu hu1 hq hr hm hq0 hr0;rw [aOK un32 q1 rh p4 p5 p2,aOL un32 q1 rh p4 p5 p2,aH (by decide:¬ ((60:Nat):Int) < 0),aD,aD,aD];refine (aDn _ _ _ un32 un1 q1 rh un21 q0 rh0 p1 p2 p3 p4 p5 hm p6 p7).trans ?_;rw [p8,p9]
abbrev aX8:Cg:=aXV (Int × Int) Mn (λ t=>t.fst) (λ t=>t.snd)
theorem aSK:CfOk prog aX8.c:=gk <| aA aDo <| aK
theorem ZX (h l:Nat) (hh:h < 10) (hl:l < 18446744073709551616):Mn [.int .u64 (h:Int),.int .u64 (l:Int),.int .u64 10]=some ((((h*18446744073709551616+l) / 10:Nat):Int),(((h*18446744073709551616+l)%10:Nat):Int)):=by
 have h1:decide (0 <= (h:Int) /\ (h:Int) < 10)=true:=aE (by omega);have h2:hO (l:Int)=true:=by simp [hO]; omega
 simp only [Mn,IU,h1,h2,oF,jX,aB];have f1:((h:Int)*18446744073709551616+l) / 10=(((h*18446744073709551616+l) / 10:Nat):Int):=by omega
 have f2:((h:Int)*18446744073709551616+l)%10=(((h*18446744073709551616+l)%10:Nat):Int):=by omega
 rw [f1,f2]
theorem AA {b q s' s:Nat} {B Q:List Int} (h:val B=10*val Q+s') (e:s'*18446744073709551616+b=10*q+s):val ((b:Int) :: B)=10*val ((q:Int) :: Q)+s:=by
 simp only [val,bE]; omega
theorem aDp:CallOk prog 240 TM:=by
 refine i7 aSK Tryz.func240 ?_;intro args t ht;obtain ⟨a,rfl,ha,rfl⟩:=xL ht;obtain ⟨a0,a1,a2,a3,a4,a5,a6,a7,rfl⟩:=wF ha;have hk:=tA ha;simp only [qN,aX,bG] at hk;obtain ⟨h0,h1,h2,h3,h4,h5,h6,h7,_⟩:=hk;obtain ⟨b0,rfl⟩:=b9 h0.1;obtain ⟨b1,rfl⟩:=b9 h1.1;obtain ⟨b2,rfl⟩:=b9 h2.1;obtain ⟨b3,rfl⟩:=b9 h3.1;obtain ⟨b4,rfl⟩:=b9 h4.1;obtain ⟨b5,rfl⟩:=b9 h5.1;obtain ⟨b6,rfl⟩:=b9 h6.1;obtain ⟨b7,rfl⟩:=b9 h7.1;refine (aXW _ _ _ _ _ _ _ _ _ _ _ _ _).trans ?_;clear ht ha;have l0:b0 < 18446744073709551616:=by omega
 have l1:b1 < 18446744073709551616:=by omega
 have l2:b2 < 18446744073709551616:=by omega
 have l3:b3 < 18446744073709551616:=by omega
 have l4:b4 < 18446744073709551616:=by omega
 have l5:b5 < 18446744073709551616:=by omega
 have l6:b6 < 18446744073709551616:=by omega
 have l7:b7 < 18446744073709551616:=by omega
 clear h0 h1 h2 h3 h4 h5 h6 h7;have step:∀ (r b:Nat),r < 10->b < 18446744073709551616->∃ q s,s < 10 /\ r*18446744073709551616+b=10*q+s /\ q < 18446744073709551616 /\ Mn [.int .u64 (r:Int),.int .u64 (b:Int),.int .u64 10]=some ((q:Int),(s:Int)):=by
  intro r b hr hb;exact ⟨_,_,bK _ (by decide),(eO _ 10).symm,by omega,ZX r b hr hb⟩
 obtain ⟨q7,s7,c7,e7,d7,r7⟩:=step 0 b7 (by decide) l7;obtain ⟨q6,s6,c6,e6,d6,r6⟩:=step s7 b6 c7 l6;obtain ⟨q5,s5,c5,e5,d5,r5⟩:=step s6 b5 c6 l5;obtain ⟨q4,s4,c4,e4,d4,r4⟩:=step s5 b4 c5 l4;obtain ⟨q3,s3,c3,e3,d3,r3⟩:=step s4 b3 c4 l3;obtain ⟨q2,s2,c2,e2,d2,r2⟩:=step s3 b2 c3 l2;obtain ⟨q1,s1,c1,e1,d1,r1⟩:=step s2 b1 c2 l1;obtain ⟨q0,s0,c0,e0,d0,r0⟩:=step s1 b0 c1 l0;clear step;rw [show (0:Int)=((0:Nat):Int) from rfl];simp only [r7,r6,r5,r4,r3,r2,r1,r0,aC];have ev:val [(b0:Int),(b1:Int),(b2:Int),(b3:Int),(b4:Int),(b5:Int),(b6:Int),(b7:Int)]=10*val [(q0:Int),(q1:Int),(q2:Int),(q3:Int),(q4:Int),(q5:Int),(q6:Int),(q7:Int)]+s0:=by
  exact AA (AA (AA (AA (AA (AA (AA (AA (B:=[]) (Q:=[]) rfl e7) e6) e5) e4) e3) e2) e1) e0
 have eq:val [(b0:Int),(b1:Int),(b2:Int),(b3:Int),(b4:Int),(b5:Int),(b6:Int),(b7:Int)] / 10=val [(q0:Int),(q1:Int),(q2:Int),(q3:Int),(q4:Int),(q5:Int),(q6:Int),(q7:Int)]:=by
  rw [ev]; omega
 have er:val [(b0:Int),(b1:Int),(b2:Int),(b3:Int),(b4:Int),(b5:Int),(b6:Int),(b7:Int)]%10=s0:=by
  rw [ev]; omega
 have ok:jO [(q0:Int),(q1:Int),(q2:Int),(q3:Int),(q4:Int),(q5:Int),(q6:Int),(q7:Int)]=true:=by
  simp only [jO,qN,aX,bG];refine ⟨rfl,?_,?_,?_,?_,?_,?_,?_,?_,trivial⟩ <;> omega
 have w8:u8.wrap (s0:Int)=(s0:Int):=by rw [Db]; omega
 simp only [TM,eq,er,nK ok,w8]
theorem K5 {a:List Int} (ha:jO a=true):TN [W8 a]=some (val a / 10,val a%10):=vZ (λ a=>(val a / 10,val a%10)) ha
abbrev aOM:Cg:=aDc (Nat × Nat) TN (λ t=>cQ 8 t.fst) (λ t=>↑t.snd)
theorem aSL:CfOk prog aOM.c:=⟨aA aDp <| aK,wX aJj <| BP⟩
theorem pH (q:Nat) (h:q < fK):cQ 8 q=[0,0,0,0,0,0,0,0] ↔ q=0:=by
 constructor
 ·intro e;have:=dQ val e;rw [kM,aV h] at this;rw [this]; rfl
 ·intro e; subst e; exact gN
theorem aJJ:∀ (f n q m:Nat) (xs:List Int),f < n->q < 10 ^ (f+1)->q < fK->xs.length+f < 1099511627776 ->
  eS prog aOM 201 aDd (aDe _ TN (λ t=>cQ 8 t.1) (λ t=>(t.2:Int)) 201) n (some (WF xs.length (cQ 8 q) m xs))=some (.str ((xs++ZR (f+1) q).reverse.map b8)):=by
 intro f
 induction f with
 | zero=>
  intro n q m xs hn hq hM hl;obtain ⟨n,rfl⟩:=aP (by omega:n ≠ 0);have hw:u8.wrap (48+((q%10:Nat):Int))=(48+(q%10:Nat):Int):=by
   rw [show (48+((q%10:Nat):Int))=((48+q%10:Nat):Int) by omega,Db]; omega
  rw [aF,aOF,show AV.agg (TRow.ints u64 (cQ 8 q)) 8=W8 (cQ 8 q) from rfl,K5 (fA q),kM,aV hM,aC,aE (by omega:xs.length+1 <= 1099511627776),aB];have h0:q / 10=0:=by omega
  rw [aE ((pH _ (by omega)).2 h0),aB,aB,aR,aDg];simp only [ZR,h0,jM,hw]
 | succ f ih=>
  intro n q m xs hn hq hM hl;obtain ⟨n,rfl⟩:=aP (by omega:n ≠ 0);have hw:u8.wrap (48+((q%10:Nat):Int))=(48+(q%10:Nat):Int):=by
   rw [show (48+((q%10:Nat):Int))=((48+q%10:Nat):Int) by omega,Db]; omega
  rw [aF,aOF,show AV.agg (TRow.ints u64 (cQ 8 q)) 8=W8 (cQ 8 q) from rfl,K5 (fA q),kM,aV hM,aC,aE (by omega:xs.length+1 <= 1099511627776),aB];by_cases h0:q / 10=0
  ·rw [aE ((pH _ (by omega)).2 h0),aB,aB,aR,aDg];simp only [ZR,h0,jM,hw]
  ·rw [aH (λ e=>h0 ((pH _ (by omega)).1 e)),aD];have:=ih n (q / 10) ((xs.length+1)*1) (xs++[u8.wrap (48+((q%10:Nat):Int))]) (by omega) (by rw [bM] at hq; omega) (by omega) (by simp; omega);rw [i9,show [u8.wrap (48+((q%10:Nat):Int))].length=1 from rfl] at this;refine this.trans ?_;rw [hw,lN];simp only [ZR,h0,mB,Hk]
theorem aJK:fK < 10 ^ 200:=by decide +kernel
theorem ZY:CallOk prog 232 Vx:=by
 refine aZ (fu:=λ _=>201) aSL Tryz.func232 ?_;intro args t ht;obtain ⟨a,rfl,ha,rfl⟩:=xL ht;refine (aXY _ _ _ _ _ _).trans ?_;have va:=xP ha;have:=aJJ 199 201 (val a) 0 [] (by decide) (fC va aJK) va (by decide);rw [nK ha] at this;exact this
abbrev aDq:Cg:=QV (Int) rOf (λ t=>[t,0,0,0,0,0,0,0]) (Nat × Bool) ZO (λ t=>cQ 8 t.fst) (λ t=>t.snd) (Nat × Bool) KP (λ t=>cQ 8 t.fst) (λ t=>t.snd)
theorem aSM:CfOk prog aDq.c:=gk <| aA Wo <| aA aEj <| aA Ts <| aK
theorem aDr (n:Nat) (h:n < 18446744073709551616):rOf [.int .u64 (n:Int)]=some (n:Int):=by
 simp only [rOf,sOf]
theorem uZ {s:Str} (i:Nat) (h:i < s.length):s.drop i=s.getD i 0 :: s.drop (i+1):=by
 rw [Cx h];simp [List.getD,h]
theorem aJL (fu:Nat) (s:Str) (x0 x1:List Int) (v25:Int) (hv:v25=(s.length:Int)) (hl:s.length <= 1099511627776):∀ (k n i:Nat),s.length - i=k->k < n->i <= s.length ->
  eS prog aDq fu aDh (WH _ rOf (λ t=>[t,0,0,0,0,0,0,0]) _ ZO (λ t=>cQ 8 t.1) (λ t=>t.2) _ KP (λ t=>cQ 8 t.1) (λ t=>t.2) fu) n (some (WG s v25 (i:Int) x0 x1)) =
   cond ((s.drop i).all oO) (aOH _ rOf (λ t=>[t,0,0,0,0,0,0,0]) _ ZO (λ t=>cQ 8 t.1) (λ t=>t.2) _ KP (λ t=>cQ 8 t.1) (λ t=>t.2) fu s (s.length:Int) 0 x0 x1) (some (.tup [.s (.pl (.agg (.ints .u64 gG) 8)),.s (.pl (.int .i64 4))])):=by
 intro k
 induction k with
 | zero=>
  intro n i hk hn hi;obtain ⟨n,rfl⟩:=aP (by omega:n ≠ 0);have e:i=s.length:=by omega
  subst e;rw [aF,aOG,hv,aH (by omega),aD,aR,aJG,PG];rfl
 | succ k ih=>
  intro n i hk hn hi;obtain ⟨n,rfl⟩:=aP (by omega:n ≠ 0);have hb:0 <= (i:Int) /\ (i:Int) < (s.length:Int):=by omega
  rw [aF,aOG,aE (by omega:(i:Int) < v25),aB,aE hb,aB,aB,bE];rw [uZ i (by omega),Aq];have hd:oO (s.getD i 0)=(decide (48 <= (s.getD i 0).toNat) && decide ((s.getD i 0).toNat <= 57)):=by
   have hble:∀ a b:Nat,Nat.ble a b=decide (a <= b):=λ a b=>by
    cases h:Nat.ble a b
    ·rw [aH λ hle=>by rw [iX hle] at h; cases h]
    ·rw [aE (cF h)]
   simp only [oO,hble]
  rw [hd];by_cases h1:(s.getD i 0).toNat < 48
  ·rw [aE (by omega:(((s.getD i 0).toNat:Nat):Int) < 48),aB,aR,aDj,aH (by omega:¬ 48 <= (s.getD i 0).toNat)];rfl
  ·rw [aH (by omega:¬ (((s.getD i 0).toNat:Nat):Int) < 48),aD];by_cases h2:57 < (s.getD i 0).toNat
   ·rw [aE (by omega:(57:Int) < (((s.getD i 0).toNat:Nat):Int)),aB,aR,aDj,aH (by omega:¬ (s.getD i 0).toNat <= 57),Bool.and_false];rfl
   ·rw [aH (by omega:¬ (57:Int) < (((s.getD i 0).toNat:Nat):Int)),aD,bY (by omega) (by omega)];rw [aE (by omega:48 <= (s.getD i 0).toNat),aE (by omega:(s.getD i 0).toNat <= 57)];exact ih n (i+1) (by omega) (by omega) (by omega)
theorem aJM:∀ (s:Str) (n:Nat),n <= tS n s:=by
 intro s
 induction s with
 | nil=>intro n; exact bV _
 | cons c r ih=>intro n; exact cK (by omega) (ih (n*10+(c.toNat - 48)))
theorem aX9 (n:Nat):jO [((n:Nat):Int),0,0,0,0,0,0,0]=true ↔ n < 18446744073709551616:=by
 simp [jO,qN]; omega
theorem aDs (n:Nat):val [((n:Nat):Int),0,0,0,0,0,0,0]=n:=by simp [val]
theorem aSN (fu:Nat) (s:Str) (x0:List Int) (v42:Int) (hv:v42=(s.length:Int)) (hl:s.length <= 1099511627776):∀ (k n i v:Nat),s.length - i=k->k < n->i <= s.length->v < fK->(s.drop i).all oO=true ->
  eS prog aDq fu aDk (WK _ rOf (λ t=>[t,0,0,0,0,0,0,0]) _ ZO (λ t=>cQ 8 t.1) (λ t=>t.2) _ KP (λ t=>cQ 8 t.1) (λ t=>t.2) fu) n (some (WJ s v42 (i:Int) x0 (cQ 8 v))) =
   cond (Nat.blt (tS v (s.drop i)) fK) (some (.tup [.s (.pl (.agg (.ints .u64 (cQ 8 (tS v (s.drop i)))) 8)),.s (.pl (.int .i64 0))])) (some (.tup [.s (.pl (.agg (.ints .u64 gG) 8)),.s (.pl (.int .i64 7))])):=by
 intro k
 induction k with
 | zero=>
  intro n i v hk hn hi hM _;obtain ⟨n,rfl⟩:=aP (by omega:n ≠ 0);have e:i=s.length:=by omega
  subst e;have hb:Nat.blt v fK=true:=by simp [dL]; exact hM
  rw [aF,aOI,hv,aH (by omega),aD,aR,aJH,PG];show _=cond (Nat.blt v fK) _ _;rw [hb]; rfl
 | succ k ih=>
  intro n i v hk hn hi hM hall;obtain ⟨n,rfl⟩:=aP (by omega:n ≠ 0);have hb:0 <= (i:Int) /\ (i:Int) < (s.length:Int):=by omega
  rw [uZ i (by omega),Aq,aX] at hall;obtain ⟨hd,hall⟩:=hall;have hdig:48 <= (s.getD i 0).toNat /\ (s.getD i 0).toNat <= 57:=by
   simp only [oO,aX] at hd;exact ⟨cF hd.1,cF hd.2⟩
  have hw:u64.wrap (u8.wrap ((((s.getD i 0).toNat:Nat):Int) - 48))=(((s.getD i 0).toNat - 48:Nat):Int):=by
   rw [show ((((s.getD i 0).toNat:Nat):Int) - 48)=(((s.getD i 0).toNat - 48:Nat):Int) by omega,Db,aV (by omega),fM,aV (by omega)]
  have hten:jO [((10:Nat):Int),0,0,0,0,0,0,0]=true:=by decide
  rw [aF,aOI,aE (by omega:(i:Int) < v42),aB,show (10:Int)=((10:Nat):Int) from rfl,aDr 10 (by decide),aC];rw [show AV.agg (TRow.ints u64 (cQ 8 v)) 8=W8 (cQ 8 v) from rfl,show AV.agg (TRow.ints u64 [((10:Nat):Int),0,0,0,0,0,0,0]) 8=W8 [((10:Nat):Int),0,0,0,0,0,0,0] from rfl,aJo (fA v) hten,aC,aKF,kM,aV hM,aDs];rw [aE hb,aB,bE,hw,aDr _ (by omega),aC];rw [show ∀ x,AV.agg (TRow.ints u64 (cQ 8 x)) 8=W8 (cQ 8 x) from λ _=>rfl,show ∀ x:Int,AV.agg (TRow.ints u64 [x,0,0,0,0,0,0,0]) 8=W8 [x,0,0,0,0,0,0,0] from λ _=>rfl,Mk (fA _) ((aX9 _).2 (by omega)),aC,Tq,kM,aDs];have edv:tS v (s.drop i)=tS (v*10+((s.getD i 0).toNat - 48)) (s.drop (i+1)):=by rw [uZ i (by omega)]; rfl
  rw [edv];by_cases h1:v*10+((s.getD i 0).toNat - 48) < fK
  ·have h2:v*10 < fK:=by omega
   rw [aV h2,aE h2,aE h1];simp only [jW,Bool.or_self,aD];rw [bY (by omega) (by omega)];exact ih n (i+1) _ (by omega) (by omega) (by omega) h1 hall
  ·have hbig:Nat.blt (tS (v*10+((s.getD i 0).toNat - 48)) (s.drop (i+1))) fK=false:=by
    have:=aJM (s.drop (i+1)) (v*10+((s.getD i 0).toNat - 48));cases hc:Nat.blt (tS (v*10+((s.getD i 0).toNat - 48)) (s.drop (i+1))) fK
    ·rfl
    ·have:=cF hc;omega
   have hc:(!decide (v*10 < fK) || !decide (v*10%fK+((s.getD i 0).toNat - 48) < fK))=true:=by
    by_cases h2:v*10 < fK
    ·rw [aV h2,aH h1]; simp
    ·rw [aH h2]; rfl
   rw [hbig,hc,aB,aR,aSF,aD]
theorem CX:CallOk prog 132 sV:=by
 refine aZ (fu:=λ args=>match args with | [.c (.s (.pl (.str s)))]=>s.length+1 | _=>0) aSM Tryz.func132 ?_;intro args t ht;unfold sV at ht;simp only at ht;split at ht
 case h_2=>cases ht
 rename_i s;obtain ⟨hl,h2⟩:=aY ht;have hl:s.length <= 1099511627776:=jN hl;cases h2;refine (aXZ _ _ _ _ _ _ _ _ _ _ _ _ _).trans ?_;have main:s ≠ []->aDi _ rOf (λ t=>[t,0,0,0,0,0,0,0]) _ ZO (λ t=>cQ 8 t.1) (λ t=>t.2) _ KP (λ t=>cQ 8 t.1) (λ t=>t.2) (s.length+1) s (s.length:Int) 0 gG gG =
   cond (s.all oO) (cond (Nat.blt (tS 0 s) fK) (some (.tup [.s (.pl (.agg (.ints .u64 (cQ 8 (tS 0 s))) 8)),.s (.pl (.int .i64 0))])) (some (.tup [.s (.pl (.agg (.ints .u64 gG) 8)),.s (.pl (.int .i64 7))]))) (some (.tup [.s (.pl (.agg (.ints .u64 gG) 8)),.s (.pl (.int .i64 4))])):=by
  intro hne;refine (aJL (s.length+1) s gG gG _ rfl hl s.length (s.length+1) 0 (by omega) (by omega) (by omega)).trans ?_;rw [kU];cases hall:s.all oO
  ·rfl
  ·rw [aB,aB];have:=aSN (s.length+1) s gG _ rfl hl s.length (s.length+1) 0 0 (by omega) (by omega) (by omega) IQ (by rw [kU]; exact hall);rw [gN,kU] at this;exact this
 show _=some (sV.enc (z6 s));have enc:∀ a b,sV.enc (a,b)=.tup [.s (.pl (.agg (.ints .u64 (cQ 8 a)) 8)),.s (.pl (.int .i64 b))]:=λ _ _=>rfl
 match s,hl,main with
 | [],_,_=>rfl
 | [c],_,main=>
  rw [aH (by simp:¬ [c]=[]),aD];have h1:¬ (1:Int) < (([c]:Str).length:Int):=by simp
  rw [aH h1,aD];refine (main (by simp)).trans ?_;simp only [z6,wA,Aq,List.all_nil,Fo];cases oO c
  ·simp only [aD,enc,gN]
  ·simp only [aB];cases Nat.blt (tS 0 [c]) fK
   ·simp only [aD,enc,gN]
   ·simp only [aB,enc]
 | c :: d :: r,_,main=>
  rw [aH (by simp:¬ c :: d :: r=[]),aD];have h1:(1:Int) < (((c :: d :: r:Str)).length:Int):=by simp; omega
  have h2:(0:Int) <= 0 /\ (0:Int) < (((c :: d :: r:Str)).length:Int):=by simp; omega
  rw [aE h1,aB,aE h2,aB];have hg:List.getD (c :: d :: r) (Int.toNat 0) 0=c:=rfl;rw [hg];have hc:decide (((c.toNat:Nat):Int)=48)=Nat.beq c.toNat 48:=by
   rw [J6]; simp [Nat.beq_eq]; omega
  rw [hc];simp only [z6,wA];cases hb:Nat.beq c.toNat 48
  ·simp only [aD,lL,jX];refine (main (by simp)).trans ?_;rw [Aq];cases (oO c && (d :: r).all oO)
   ·simp only [aD,enc,gN]
   ·simp only [aB];cases Nat.blt (tS 0 (c :: d :: r)) fK
    ·simp only [aD,enc,gN]
    ·simp only [aB,enc]
  ·simp only [aB,jW,pC,aD,enc,gN]
theorem GE {s:Str} (h:s.length <= 1099511627776):DN [.str s]=some (z6 s):=by
 simp only [DN,sV,h,oF,aB]
theorem aJN:CfOk prog aDm.c:=gk <| aA CX <| aA ZY <| aA TK <| aK
theorem TW:CallOk prog 227 jQ:=by
 refine lA (g:=aDm) (fu:=λ _=>0) gH aJN Tryz.func227 (by kernel_rfl) ?_;intro args t ht;unfold jQ at ht;simp only at ht;split at ht
 ·cases ht; exact (aSG 0).trans rfl
 ·cases ht
end
end Go.Eng
