import Derived.Test.YthiilbllojllcaaGreatZL1
namespace Go.Eng
open Go.IntKind (u64 i64 u8)
noncomputable section
open Go Go.Proofs
set_option linter.all false
abbrev wi (x:Int):Int:=i64.wrap x
def Dp:Cg:=⟨⟨cV [],[],cX⟩,[(2,[0,2,3],[])]⟩
abbrev TT:List Nat:=[1,2]
def Pd (ty:TypeId) (n:Nat) (xs:List Int) (i j:Int):St :=
 {tm:=[(0,.s (.own 0 n 1)),(2,.int .i64 i),(3,.int .i64 j),(28,.s (.own 0 n 1))],hp:=[(0,⟨ty,n*1,.t (.ints .u8 xs)⟩)],nx:=1,sz:=28 }
def Pe (ty:TypeId) (n:Nat) (xs:List Int):St :=
 {tm:=[(28,.s (.own 0 n 1))],hp:=[(0,⟨ty,n*1,.t (.ints .u8 xs)⟩)],nx:=1,sz:=28 }
theorem aYW (fu:Nat) (ty:TypeId) (n:Nat) (xs:List Int):aRs prog Tryz.f208 Dp fu ty (.ints .u8 xs) n 1 [] =
  Fr prog Dp fu Tryz.f208 TT (LR prog Dp fu Tryz.f208 TT n 1) fu (some (Pd ty n xs 0 (wi ((n:Int) - 1)))):=by kernel_rfl
theorem KR (fu:Nat) (ty:TypeId) (n:Nat) (xs:List Int):LR prog Dp fu Tryz.f208 TT n 1 (.exit 0) (Pe ty n xs)=cond (Nat.beq n n && true) (some (.tup [],.ints .u8 xs)) none:=by kernel_rfl
theorem IH {β:Type} (fu:Nat) (ty:TypeId) (n:Nat) (xs:List Int) (i j:Int) (G:FG β) (H:FH β):aBq prog Dp fu Tryz.f208 TT G H (Pd ty n xs i j) =
  cond (decide (i < j)) (cond (decide (0 <= j /\ j < (n:Int))) (cond (decide (0 <= i /\ i < (n:Int))) (cond (decide (0 <= i /\ i < (n:Int))) (cond (decide (0 <= j /\ j < (n:Int)))
   (G (some (Pd ty n ((xs.set i.toNat (xs.getD j.toNat 0)).set j.toNat (xs.getD i.toNat 0)) (wi (i+1)) (wi (j - 1))))) none) none) none) none)
  (H (.exit 0) (some (Pe ty n xs))):=by kernel_rfl
def FC (xs:List Int) (i:Nat):List Int:=(List.range xs.length).map λ k=>if k < i ∨ xs.length - 1 - k < i then xs.getD (xs.length - 1 - k) 0 else xs.getD k 0
theorem yW (xs:List Int) (i:Nat):(FC xs i).length=xs.length:=by simp [FC]
theorem BK (xs:List Int) (i k:Nat) (hk:k < xs.length):(FC xs i)[k]?=some (if k < i ∨ xs.length - 1 - k < i then xs.getD (xs.length - 1 - k) 0 else xs.getD k 0):=by
 simp [FC,nO,List.getElem?_range hk]
theorem aD1 (xs:List Int):FC xs 0=xs:=by
 apply Zs;intro k;by_cases hk:k < xs.length
 ·rw [BK xs 0 k hk];simp [List.getD,hk]
 ·rw [Ch (by rw [yW]; omega),Ch (by omega)]
theorem Nx (xs:List Int) (i k:Nat) (hk:k < xs.length):(FC xs i).getD k 0=(if k < i ∨ xs.length - 1 - k < i then xs.getD (xs.length - 1 - k) 0 else xs.getD k 0):=by
 rw [jM,BK xs i k hk]; rfl
theorem aD2 (xs:List Int) (i:Nat) (h:i < xs.length - 1 - i):((FC xs i).set i ((FC xs i).getD (xs.length - 1 - i) 0)).set (xs.length - 1 - i) ((FC xs i).getD i 0)=FC xs (i+1):=by
 apply Zs;intro k;by_cases hk:k < xs.length
 ·rw [Nx xs i _ (by omega),Nx xs i _ (by omega),BK xs (i+1) k hk];have e1:¬ (xs.length - 1 - i < i ∨ xs.length - 1 - (xs.length - 1 - i) < i):=by omega
  have e2:¬ (i < i ∨ xs.length - 1 - i < i):=by omega
  rw [aV e1,aV e2];rw [Zt,Zt];by_cases h1:xs.length - 1 - i=k
  ·rw [aX h1,aX (by simp [yW]; omega),aX (by omega)];rw [show xs.length - 1 - k=i by omega]
  ·rw [aV h1];by_cases h2:i=k
   ·rw [aX h2,aX (by rw [yW]; omega),aX (by omega),h2]
   ·rw [aV h2,BK xs i k hk];by_cases h3:k < i ∨ xs.length - 1 - k < i
    ·rw [aX h3,aX (by omega)]
    ·rw [aV h3,aV (by omega)]
 ·rw [Ch (by simp [yW]; omega),Ch (by rw [yW]; omega)]
theorem TU (xs:List Int) (i:Nat) (h:xs.length <= i+i+1):FC xs i=xs.reverse:=by
 apply Zs;intro k;by_cases hk:k < xs.length
 ·rw [BK xs i k hk,List.getElem?_reverse hk];have hg:∀ q,q < xs.length->xs[q]?=some (xs.getD q 0):=λ q hq=>by simp [List.getD,hq]
  by_cases h3:k < i ∨ xs.length - 1 - k < i
  ·rw [aX h3,hg _ (by omega)]
  ·rw [aV h3,hg _ (by omega),show xs.length - 1 - k=k by omega]
 ·rw [Ch (by rw [yW]; omega),Ch (by simp; omega)]
theorem aGW {x:Int} (h1:-9223372036854775808 <= x) (h2:x < 9223372036854775808):wi x=x:=by
 simp only [wi,IntKind.wrap,IntKind.signed,IntKind.bits];simp;omega
theorem aGX (fu:Nat) (ty:TypeId) (xs:List Int) (hn:xs.length <= 1099511627776):∀ (m n i:Nat),xs.length <= i+i+m->m < n->i <= xs.length ->
  Fr prog Dp fu Tryz.f208 TT (LR prog Dp fu Tryz.f208 TT xs.length 1) n (some (Pd ty xs.length (FC xs i) i ((xs.length:Int) - 1 - i)))=some (.tup [],.ints .u8 xs.reverse):=by
 intro m
 induction m with
 | zero=>
  intro n i h1 h2 h3;obtain ⟨n,rfl⟩:=aP (by omega:n ≠ 0);have c:¬ ((i:Int) < (xs.length:Int) - 1 - i):=by omega
  rw [oT,IH,aJ c,aE];show LR prog Dp fu Tryz.f208 TT xs.length 1 (.exit 0) (Pe ty xs.length (FC xs i))=_;rw [KR,oH,TU xs i (by omega)]; rfl
 | succ m ih=>
  intro n i h1 h2 h3;obtain ⟨n,rfl⟩:=aP (by omega:n ≠ 0);rw [oT,IH];by_cases c:(i:Int) < (xs.length:Int) - 1 - i
  ·have hj:(xs.length:Int) - 1 - i=((xs.length - 1 - i:Nat):Int):=by omega
   have b1:0 <= ((xs.length - 1 - i:Nat):Int) /\ ((xs.length - 1 - i:Nat):Int) < (xs.length:Int):=by omega
   have b2:0 <= (i:Int) /\ (i:Int) < (xs.length:Int):=by omega
   rw [aD c,aB,hj,aD b1,aB,aD b2,aB,aB,aB,bD,bD];rw [aD2 xs i (by omega),aGW (by omega) (by omega),aGW (by omega) (by omega)];rw [show ((i:Int)+1)=((i+1:Nat):Int) by omega,show (((xs.length - 1 - i:Nat):Int) - 1)=(xs.length:Int) - 1 - ((i+1:Nat):Int) by omega];exact ih n (i+1) (by omega) (by omega) (by omega)
  ·rw [aJ c,aE];show LR prog Dp fu Tryz.f208 TT xs.length 1 (.exit 0) (Pe ty xs.length (FC xs i))=_;rw [KR,oH,TU xs i (by omega)]; rfl
def aGY:TRow->Nat->Nat->FA (Bool × AV × TRow)
 | .ints .u8 xs,n,1,[]=>some (decide (n <= 1099511627776),.tup [],.ints .u8 xs.reverse)
 | _,_,_,_=>none
theorem aOM:CD prog 208 (Fu aGY):=by
 refine aJX (g:=Dp) (fu:=λ _ n=>n+1) kD ⟨aH,λ _ _ h=>by cases h⟩ Tryz.func208 (by kernel_rfl) ?_;intro ty r len esz rest av r' hl hE;unfold aGY at hE;split at hE
 ·rename_i xs;simp only [qM,Av,bJ] at hE;obtain ⟨hn,rfl,rfl⟩:=hE;have hl:xs.length=len:=by simpa [TRow.length] using hl
  subst hl;rw [aYW,aGW (by omega) (by omega)];have:=aGX (xs.length+1) ty xs hn xs.length (xs.length+1) 0 (by omega) (by omega) (by omega);rw [aD1] at this;simpa using this
 ·cases hE
def aD3:List UInt8:=[0,1,2,2]++(List.replicate 4 3++(List.replicate 8 4++(List.replicate 16 5++(List.replicate 32 6++(List.replicate 64 7++List.replicate 128 8)))))
def l1 (x:Int) (K:Int->Int->Option AV):Option AV:=cond (decide (4294967296 <= x)) (K (eJ .u64 x 32) 32) (K x 0)
def l2 (x n:Int) (K:Int->Int->Option AV):Option AV:=cond (decide (65536 <= x)) (K (eJ .u64 x 16) (wi (n+16))) (K x n)
def l3 (x n:Int) (K:Int->Int->Option AV):Option AV:=cond (decide (256 <= x)) (K (eJ .u64 x 8) (wi (n+8))) (K x n)
def l4 (x n:Int):Option AV:=cond (decide (0 <= u8.wrap x /\ u8.wrap x < ((aD3.length:Nat):Int))) (some (.int .i64 (wi (n+wi (((aD3.getD (u8.wrap x).toNat 0).toNat:Nat):Int))))) none
theorem aGZ (x:Int):aS prog Tryz.f127 EA WT [.int .u64 x]=l1 x λ x n=>l2 x n λ x n=>l3 x n λ x n=>l4 x n:=by kernel_rfl
def bl (n:Nat):Nat:=if n=0 then 0 else n.log2+1
theorem FD {n k:Nat} (h:2 ^ k <= n):bl n=k+bl (n / 2 ^ k):=by
 have hp:0 < 2 ^ k:=jF (by omega);have h0:n ≠ 0:=by omega
 have h1:n / 2 ^ k ≠ 0:=by
  have:=Nat.div_pos h hp;omega
 unfold bl;rw [aV h0,aV h1];have:n.log2=k+(n / 2 ^ k).log2:=by
  rw [Nat.log2_eq_iff h0];have g1:=Nat.log2_self_le h1;have g2:n / 2 ^ k < 2 ^ ((n / 2 ^ k).log2+1):=Nat.lt_log2_self;generalize (n / 2 ^ k).log2=m at *;constructor
  ·have:=Nat.mul_le_of_le_div (2 ^ k) _ _ g1;rw [dV,bV]; exact this
  ·rw [DP hp,<-dV] at g2;rw [show k+m+1=m+1+k by omega]; exact g2
 omega
theorem aG0:aD3.length=256:=by decide +kernel
theorem aON:∀ k:Fin 256,(aD3.getD k.val 0).toNat=bl k.val:=by decide +kernel
theorem Ny {n k:Nat} (h:n < 2 ^ k):bl n <= k:=by
 unfold bl;split
 ·omega
 ·rename_i h0;have:=(Nat.log2_lt h0).2 h;omega
theorem z7 (n:Nat):n < 2 ^ bl n /\ (n ≠ 0->2 ^ (bl n - 1) <= n):=by
 unfold bl;split
 ·rename_i h; subst h; simp
 ·rename_i h0;refine ⟨Nat.lt_log2_self,λ _=>?_⟩;rw [TD]; exact Nat.log2_self_le h0
theorem aYX (x k:Nat) (hk:k < 64):eJ .u64 (x:Int) ((k:Nat):Int)=((x / 2 ^ k:Nat):Int):=pF x k hk
theorem aVP (x n:Nat) (hx:x < 256) (hn:n <= 64):l4 x n=some (.int .i64 ((n+bl x:Nat):Int)):=by
 have hb:=Ny (n:=x) (k:=8) hx;unfold l4;rw [qD,aY hx];have:decide (0 <= ((x:Nat):Int) /\ ((x:Nat):Int) < ((aD3.length:Nat):Int))=true:=by
  rw [aG0]; simp only [bJ]; omega
 rw [this,aB,bD,show (aD3.getD x 0).toNat=bl x from aON ⟨x,hx⟩];simp only [wi];rw [bW (n:=((bl x:Nat):Int)) (by omega) (by omega),bW (by omega) (by omega)];rfl
theorem aVQ (x n:Nat) (hx:x < 65536) (hn:n <= 48):(l3 x n λ x n=>l4 x n)=some (.int .i64 ((n+bl x:Nat):Int)):=by
 unfold l3;by_cases h:256 <= x
 ·have h':(256:Int) <= x:=by omega
  simp only [h',qP,aB,wi];rw [show (8:Int)=((8:Nat):Int) from rfl,aYX x 8 (by omega),bW (by omega) (by omega),<-iE,aVP _ _ (by omega) (by omega),FD (n:=x) (k:=8) h];congr 3; omega
 ·have h':¬ (256:Int) <= x:=by omega
  simp only [h',qO,aE];exact aVP x n (by omega) (by omega)
theorem aVR (x n:Nat) (hx:x < 4294967296) (hn:n <= 32):(l2 x n λ x n=>l3 x n λ x n=>l4 x n)=some (.int .i64 ((n+bl x:Nat):Int)):=by
 unfold l2;by_cases h:65536 <= x
 ·have h':(65536:Int) <= x:=by omega
  simp only [h',qP,aB,wi];rw [show (16:Int)=((16:Nat):Int) from rfl,aYX x 16 (by omega),bW (by omega) (by omega),<-iE,aVQ _ _ (by omega) (by omega),FD (n:=x) (k:=16) h];congr 3; omega
 ·have h':¬ (65536:Int) <= x:=by omega
  simp only [h',qO,aE];exact aVQ x n (by omega) (by omega)
theorem bGq (x:Nat) (hx:x < 18446744073709551616):(l1 x λ x n=>l2 x n λ x n=>l3 x n λ x n=>l4 x n)=some (.int .i64 ((bl x:Nat):Int)):=by
 unfold l1;by_cases h:4294967296 <= x
 ·have h':(4294967296:Int) <= x:=by omega
  simp only [h',qP,aB];rw [show (32:Int)=((32:Nat):Int) from rfl,aYX x 32 (by omega),aVR _ _ (by omega) (by omega),FD (n:=x) (k:=32) h]
 ·have h':¬ (4294967296:Int) <= x:=by omega
  simp only [h',qO,aE];have:=aVR x 0 (by omega) (by omega);rw [bT] at this;exact this
def BL:Summ where
 T:=Nat
 run:=λ
  | [.c (.s (.pl (.int .u64 x)))]=>cond (iV x) (some (bl x.toNat)) none
  | _=>none
 enc:=λ n=>.int .i64 n
theorem TV:CallOk prog 127 BL:=by
 refine lL (g:=EA) (fu:=λ _=>WT) kD aH Tryz.func127 (by kernel_rfl) ?_;intro args t ht;simp only [BL] at ht;split at ht
 ·rename_i x;obtain ⟨h1,h2⟩:=bA ht;simp only [iV,bJ] at h1;cases h2;obtain ⟨x,rfl⟩:=bZ h1.1;rw [aGZ,bGq x (by omega)];rfl
 ·cases ht
def aG1:Cg:=⟨⟨cV [(127,BL)],[],cX⟩,[(3,[1,2,3],[2])]⟩
theorem Γ_len:∀ f A,aG1.c.Γ f=some A->CallOk prog f A:=aA TV aH
def aG2 (L:FA Nat):List Int->Int->Option AV
 | a :: r,i=>cond (!decide (a=0)) ((L [.int .u64 a]).bind λ t=>some (.int .i64 (wi (wi (i*64)+t)))) (aG2 L r (wi (i - 1)))
 | [],_=>some (.int .i64 0)
theorem aYY (a0 a1 a2 a3 a4 a5 a6 a7:Int):aS prog Tryz.f82 aG1 20 [W8 [a0,a1,a2,a3,a4,a5,a6,a7]]=aG2 BL.run [a7,a6,a5,a4,a3,a2,a1,a0] 7:=by kernel_rfl
theorem Nz (x:Nat) (hx:x < 18446744073709551616):BL.run [.int .u64 x]=some (bl x):=by
 have h1:iV (x:Int)=true:=by simp only [iV,bJ]; omega
 simp only [BL,h1,aB,bD]
theorem Z8:bl 0=0:=by simp [bl]
theorem aD4 (p b v s:Nat):(b+18446744073709551616*s)*p+v=s*(p*18446744073709551616)+(b*p+v):=by
 generalize 18446744073709551616=q;grind
theorem W5:∀ (x:List Int) (s:Nat),tU x=true->iM x s=s*18446744073709551616 ^ x.length+iM x 0 /\ iM x 0 < 18446744073709551616 ^ x.length:=by
 intro x
 induction x with
 | nil=>intro s _; simp [iM]
 | cons a x ih=>
  intro s h;simp only [tU,aW,bJ] at h;simp only [iM];obtain ⟨h1,h2⟩:=ih (a.toNat+18446744073709551616*s) h.2;obtain ⟨h3,_⟩:=ih (a.toNat+18446744073709551616*0) h.2;have ha:a.toNat < 18446744073709551616:=by omega
  rw [h1,h3];simp only [fY,bM,u9,fP];generalize 18446744073709551616 ^ x.length=p at *;generalize a.toNat=b at *;generalize iM x 0=v at *;constructor
  ·exact aD4 p b v s
  ·have:(b+1)*p <= 18446744073709551616*p:=sR _ (by omega);rw [fX] at this;omega
theorem aOO:∀ (x:List Int),tU x=true->x.length <= 8->aG2 BL.run x ((x.length:Int) - 1)=some (.int .i64 ((bl (iM x 0):Nat):Int)):=by
 intro x
 induction x with
 | nil=>intro _ _; simp [aG2,iM,Z8]
 | cons a x ih=>
  intro h hl;have h':=h;simp only [tU,aW,bJ] at h;simp only [fY] at hl;obtain ⟨A,rfl⟩:=bZ h.1.1;have e1:(((((A:Int) :: x).length:Nat):Int) - 1)=(x.length:Int):=by simp
  rw [e1];simp only [aG2,iM,u9,fP,bD];by_cases h0:A=0
  ·subst h0;have e2:wi ((x.length:Int) - 1)=(x.length:Int) - 1:=bW (by omega) (by omega);rw [e2,ih h.2 (by omega)];simp
  ·have hA:¬ (A:Int)=0:=by omega
   obtain ⟨g1,g2⟩:=W5 x A h.2;have hb:=Ny (n:=A) (k:=64) (by omega);have hd:(!decide ((A:Int)=0))=true:=by rw [aJ hA]; rfl
   rw [hd,aB,Nz A (by omega),aC];simp only [wi];rw [bW (n:=(x.length:Int)*64) (by omega) (by omega),bW (by omega) (by omega)];have e3:bl (iM x A)=64*x.length+bl A:=by
    rw [D9] at g1 g2;have hp:0 < 2 ^ (64*x.length):=jF (by omega);have hge:2 ^ (64*x.length) <= iM x A:=by
     rw [g1];have:1*2 ^ (64*x.length) <= A*2 ^ (64*x.length):=sR _ (by omega);omega
    rw [FD hge];have e5:iM x A / 2 ^ (64*x.length)=A:=by rw [g1,bV,Nat.mul_add_div hp,lG g2,fP]
    rw [e5]
   rw [e3];have e4:(x.length:Int)*64+((bl A:Nat):Int)=((64*x.length+bl A:Nat):Int):=by omega
   rw [e4]
def KS {T:Type} (F:List Int->T):FA T
 | [.c (.s (.pl (.agg (.ints .u64 a) 8)))]=>cond (gK a) (some (F a)) none
 | _=>none
theorem w9 {T:Type} {F:List Int->T} {args:List AV} {t:T} (h:KS F args=some t):∃ a,args=[W8 a] /\ gK a=true /\ t=F a:=by
 unfold KS at h;split at h
 ·rename_i a;obtain ⟨h1,h2⟩:=bA h;cases h2;exact ⟨a,rfl,h1,rfl⟩
 ·cases h
def aOP:Summ:={ T:=Nat,run:=KS λ a=>bl (val a),enc:=λ n=>.int .i64 n }
theorem W6:CallOk prog 82 aOP:=by
 refine lL (g:=aG1) (fu:=λ _=>20) kD Γ_len Tryz.func82 (by kernel_rfl) ?_;intro args t ht;obtain ⟨a,rfl,ha,rfl⟩:=w9 ht;have ha':=wQ ha;obtain ⟨a0,a1,a2,a3,a4,a5,a6,a7,rfl⟩:=zT ha;rw [aYY];have:=aOO [a7,a6,a5,a4,a3,a2,a1,a0] (Su ha') (by simp);rw [Mu] at this;exact this
def BM:Cg:=⟨⟨cV [(82,aOP),(126,Sw),(85,bFR),(86,bFN)],[],cX⟩,[(7,[3,4,5,6,7,8,9],[4,5,6,7,8])]⟩
theorem Γ_div:∀ f A,BM.c.Γ f=some A->CallOk prog f A:=aA W6 (aA Mx (aA aNw (aA Ss aH)))
def aG3:FA Nat:=aOP.run
def tH:FA Nat:=Sw.run
def aG4:FA Int:=bFR.run
def NO:FA (Nat × Bool):=bFN.run
def NP:FA (Nat × Bool):=bH0.run
def W7:FA (Nat × Bool):=bFW.run
abbrev TW:List Nat:=[1,1,1,1,0,1,2]
def aD5 (b q r:List Int) (s:Int):St :=
 {tm:=[(3,.s (.ptr 0 0 8)),(4,.s (.ptr 1 0 8)),(5,.s (.ptr 2 0 8)),(6,.int .i64 0),(7,.s (.ptr 3 0 8)),(8,.s (.ptr 4 0 8)),(9,.int .i64 s)],
  hp:=[(0,⟨tW,8,.t (.ints .u64 b)⟩),(1,⟨tW,8,.t (.ints .u64 iT)⟩),(2,⟨tW,8,.t (.ints .u64 iT)⟩),(3,⟨tW,8,.t (.ints .u64 q)⟩),(4,⟨tW,8,.t (.ints .u64 r)⟩)],nx:=5,sz:=50 }
def aYZ (q r:List Int):St :=
 {tm:=[(4,.s (.ptr 0 0 8)),(5,.s (.ptr 1 0 8)),(6,.int .i64 0),(7,.s (.ptr 2 0 8)),(8,.s (.ptr 3 0 8))],
  hp:=[(0,⟨tW,8,.t (.ints .u64 iT)⟩),(1,⟨tW,8,.t (.ints .u64 iT)⟩),(2,⟨tW,8,.t (.ints .u64 q)⟩),(3,⟨tW,8,.t (.ints .u64 r)⟩)],nx:=4,sz:=50 }
abbrev HF (q r:List Int) (e:Int):AV:=.tup [.s (.pl (.agg (.ints .u64 q) 8)),.s (.pl (.agg (.ints .u64 r) 8)),.s (.pl (.int .i64 e))]
theorem aY0 (fu:Nat) (a b:List Int):aS prog Tryz.f154 BM fu [W8 a,W8 b]=cond (decide (b=iT)) (some (HF iT iT 9))
  ((aG3 [W8 a]).bind λ x:Nat=>(aG3 [W8 b]).bind λ y:Nat=>Fr prog BM fu Tryz.f154 TW (Ib prog BM fu Tryz.f154 TW) fu (some (aD5 b iT a (wi (x - y))))):=by kernel_rfl
theorem KT (fu:Nat) (q r:List Int):Ib prog BM fu Tryz.f154 TW (.exit 0) (aYZ q r)=some (HF q r 0):=by kernel_rfl
theorem BN (fu:Nat) (b q r:List Int) (s:Int) (G:Option St->Option AV) (H:Ex->Option St->Option AV):aBq prog BM fu Tryz.f154 TW G H (aD5 b q r s) =
  cond (decide (0 <= s)) ((tH [W8 b,.int .i64 s]).bind λ t:Nat=>(aG4 [W8 r,W8 (cM 8 t)]).bind λ c:Int=>cond (decide (0 <= c))
   ((NO [W8 r,W8 (cM 8 t)]).bind λ d:Nat × Bool=>cond (inB s) (cond (decide (s.tmod 64 < 0)) none (cond (inB s)
    (G (some (aD5 b (q.set (Mv s) (Fv .u64 (q.getD (Mv s) 0) (mE .u64 1 (s.tmod 64)))) (cM 8 d.1) (wi (s - 1))))) none)) none)
   (G (some (aD5 b q r (wi (s - 1)))))) (H (.exit 0) (some (aYZ q r))):=by kernel_rfl
theorem TX:∀ (k q n m:Nat),q < k->n / 18446744073709551616 ^ q%18446744073709551616+m < 18446744073709551616 ->
  (cM k n).set q (((n / 18446744073709551616 ^ q%18446744073709551616+m:Nat)):Int)=cM k (n+18446744073709551616 ^ q*m):=by
 intro k
 induction k with
 | zero=>intro q n m h; omega
 | succ k ih=>
  intro q n m h hm;cases q with
  | zero=>
   simp only [iY,yA,mZ] at hm ⊢;simp only [cM,u5];have e1:(n+m)%18446744073709551616=n%18446744073709551616+m:=by omega
   have e2:(n+m) / 18446744073709551616=n / 18446744073709551616:=by omega
   rw [e1,e2]
  | succ q=>
   simp only [cM,KG];have e1:n / 18446744073709551616 ^ (q+1)=n / 18446744073709551616 / 18446744073709551616 ^ q:=by
    rw [bM,bV (_ ^ q),jE]
   rw [e1] at hm ⊢;rw [ih q (n / 18446744073709551616) m (by omega) hm];have e2:n+18446744073709551616 ^ (q+1)*m=n+18446744073709551616*(18446744073709551616 ^ q*m):=by
    rw [bM,bV (_ ^ q),dU]
   rw [e2];have e3:(n+18446744073709551616*(18446744073709551616 ^ q*m))%18446744073709551616=n%18446744073709551616:=by omega
   have e4:(n+18446744073709551616*(18446744073709551616 ^ q*m)) / 18446744073709551616=n / 18446744073709551616+18446744073709551616 ^ q*m:=by omega
   rw [e3,e4]
theorem II (h r:Nat):2 ^ (r+1)*h ||| 2 ^ r=2 ^ (r+1)*h+2 ^ r :=
 (Au (Nat.pow_lt_pow_right (by omega) (by omega)) h).symm
theorem aOQ (Q j:Nat) (hj:j < 512) (hd:2 ^ (j+1) ∣ Q) :
  (cM 8 Q).set (Mv j) (Fv .u64 ((cM 8 Q).getD (Mv j) 0) (mE .u64 1 ((j:Int).tmod 64)))=cM 8 (Q+2 ^ j):=by
 obtain ⟨_,g2,g3⟩:=WX j hj;have hq:j / 64 < 8:=by omega
 have hr:j%64 < 64:=bH _ (by omega);obtain ⟨h,rfl⟩:=hd;have hr2:2 ^ (j%64) <= 2 ^ 63:=kM (by omega) (by omega);have hp:(2:Nat) ^ 63=9223372036854775808:=by decide
 have hx:∃ x,2 ^ (j+1)*h / 18446744073709551616 ^ (j / 64)%18446744073709551616=2 ^ (j%64+1)*x:=by
  rw [D9,show 2 ^ (j+1)=2 ^ (64*(j / 64))*2 ^ (j%64+1) by rw [<-dV]; congr 1; omega,dU,Nat.mul_div_cancel_left _ (jF (by omega))];have e:18446744073709551616=2 ^ (j%64+1)*2 ^ (63 - j%64):=by
   rw [<-dV,show j%64+1+(63 - j%64)=64 by omega]
  rw [e,Nat.mul_mod_mul_left];exact ⟨_,rfl⟩
 obtain ⟨x,hx⟩:=hx;have hxl:2 ^ (j%64+1)*x < 18446744073709551616:=by rw [<-hx]; exact bH _ (by omega)
 have hsum:2 ^ (j%64+1)*x+2 ^ (j%64) < 18446744073709551616:=by
  rw [<-II];exact KN (n:=64) hxl (by omega)
 rw [g2,g3,zU 8 _ _ hq,show (1:Int)=((1:Nat):Int) from rfl,Gw 1 _ hr,mZ,aY (by omega:2 ^ (j%64) < 18446744073709551616)];rw [Sn _ _ (by rw [hx]; exact hxl) (by omega),hx,II,<-hx];rw [TX 8 _ _ _ hq (by rw [hx]; exact hsum)];rw [D9,<-dV,show 64*(j / 64)+j%64=j by omega]
theorem yX {b:List Int} (hb:gK b=true) (i:Int):tH [W8 b,.int .i64 i]=some (Ak (val b) i):=by
 show cond (gK b) _ none=_;rw [hb]; rfl
theorem vF {T:Type} (F:List Int->List Int->T) {a b:List Int} (ha:gK a=true) (hb:gK b=true):Sp F [W8 a,W8 b]=some (F a b):=by
 show cond (gK a && gK b) _ none=_;rw [ha,hb]; rfl
theorem lN {T:Type} (F:List Int->T) {a:List Int} (ha:gK a=true):KS F [W8 a]=some (F a):=by
 show cond (gK a) _ none=_;rw [ha]; rfl
theorem Z9 {a b:List Int} (ha:gK a=true) (hb:gK b=true):aG4 [W8 a,W8 b]=some (tV (val a) (val b)):=vF (λ a b=>tV (val a) (val b)) ha hb
theorem JL {a b:List Int} (ha:gK a=true) (hb:gK b=true):NO [W8 a,W8 b]=some (Zh a b):=vF _ ha hb
theorem Pf {a b:List Int} (ha:gK a=true) (hb:gK b=true):NP [W8 a,W8 b]=some (Zg a b):=vF _ ha hb
theorem aAa {a b:List Int} (ha:gK a=true) (hb:gK b=true):W7 [W8 a,W8 b]=some (aNF a b):=vF _ ha hb
theorem Pg {a:List Int} (ha:gK a=true):aG3 [W8 a]=some (bl (val a)):=lN (λ a=>bl (val a)) ha
theorem KU:0 < gD:=by decide +kernel
theorem KV (n:Nat):cM 8 (n+gD)=cM 8 n:=by
 rw [<-WQ (n+gD),Nat.add_mod_right,WQ]
theorem Co (x y:Nat):decide ((0:Int) <= tV x y)=decide (y <= x):=by
 unfold tV;by_cases h1:x < y
 ·have:¬ y <= x:=by omega
  simp [h1,this]
 ·by_cases h2:y < x
  ·have:y <= x:=by omega
   simp [h1,h2,this]
  ·have:y <= x:=by omega
   simp [h1,h2,this]
theorem aG5 {b:List Int} {A fu:Nat} {K:Ex->St->Option AV} (hb:gK b=true):∀ (m:Nat) (n Q R:Nat),m <= 512->m < n->A=Q*val b+R->2 ^ m ∣ Q->R < val b*2 ^ m->R < gD->(m=0 ∨ val b*2 ^ (m - 1) < gD) ->
  Fr prog BM fu Tryz.f154 TW K n (some (aD5 b (cM 8 Q) (cM 8 R) ((m:Int) - 1)))=K (.exit 0) (aYZ (cM 8 (A / val b)) (cM 8 (A%val b))):=by
 intro m
 induction m with
 | zero=>
  intro n Q R _ hn hA _ hR _ _;obtain ⟨n,rfl⟩:=aP (by omega:n ≠ 0);rw [iY,gY] at hR;have e1:A / val b=Q:=by
   rw [hA,bV,Nat.mul_add_div (by omega),lG hR,fP]
  have e2:A%val b=R:=by
   rw [hA,bV,Nat.mul_add_mod,aY hR]
  rw [e1,e2,oT,BN];rfl
 | succ m ih=>
  intro n Q R hm hn hA hd hR hRM hB;obtain ⟨n,rfl⟩:=aP (by omega:n ≠ 0)
  have hB' : val b * 2 ^ m < gD := by rcases hB with hB | hB; · omega
                                      · simpa using hB
  have es:(((m+1:Nat):Int) - 1)=(m:Int):=by omega
  rw [es];obtain ⟨g1,g2,g3⟩:=WX m (by omega);have hneg:¬ ((m:Int).tmod 64 < 0):=by rw [g3]; omega
  have h0:(0:Int) <= (m:Int):=by omega
  have esh:Ak (val b) (m:Int)=val b*2 ^ m:=by
   unfold Ak;have c1:(decide ((512:Int) <= m) || decide ((m:Int) <= -512))=false:=by
    have:¬ (512:Int) <= m:=by omega
    have h2:¬ (m:Int) <= -512:=by omega
    simp [this,h2]
   have c2:decide ((m:Int) < 0)=false:=by
    have:¬ (m:Int) < 0:=by omega
    simp [this]
   rw [c1,c2,aE,aE,bD]
  have vT:val (cM 8 (val b*2 ^ m))=val b*2 ^ m:=by rw [mN,aY hB']
  have vR:val (cM 8 R)=R:=by rw [mN,aY hRM]
  have ew:wi ((m:Int) - 1)=(m:Int) - 1:=bW (by omega) (by omega);have rC:aG4 [W8 (cM 8 R),W8 (cM 8 (val b*2 ^ m))]=some (tV R (val b*2 ^ m)):=by
   rw [Z9 (cL _) (cL _),vR,vT]
  have rS:NO [W8 (cM 8 R),W8 (cM 8 (val b*2 ^ m))]=some (R+gD - val b*2 ^ m,decide (val b*2 ^ m <= R)):=by
   rw [JL (cL _) (cL _),Zh,vR,vT]
  rw [oT,BN,yX hb,esh];have dv:2 ^ m ∣ Q:=sP (Nat.pow_dvd_pow 2 (by omega)) hd;have hmm:m=0 ∨ val b*2 ^ (m - 1) < gD:=by
   rcases G8 m with h | h
   ·exact .inl h
   ·refine .inr (jS (At _ (kM (by omega) (by omega))) hB')
  rw [aD h0,aB,aC,rC,aC,Co];by_cases hge:val b*2 ^ m <= R
  ·rw [aD hge,aB,rS,aC,g1,aB,aJ hneg,aE,aB,aOQ Q m (by omega) hd,ew];have er:cM 8 (R+gD - val b*2 ^ m)=cM 8 (R - val b*2 ^ m):=by
    rw [show R+gD - val b*2 ^ m=R - val b*2 ^ m+gD by omega,KV]
   rw [er];refine ih n (Q+2 ^ m) (R - val b*2 ^ m) (by omega) (by omega) ?_ (Nat.dvd_add dv (KK _)) ?_ (by omega) hmm
   ·rw [fX,bV (2 ^ m)]; omega
   ·rw [bM,<-dU] at hR; omega
  ·rw [aJ hge,aE,ew];exact ih n Q R (by omega) (by omega) hA dv (by omega) hRM hmm
def KW (a b:List Int):Nat × Nat × Int:=if val b=0 then (0,0,9) else (val a / val b,val a%val b,0)
def bGr:Summ:={ T:=Nat × Nat × Int,run:=Sp KW,enc:=λ t=>HF (cM 8 t.1) (cM 8 t.2.1) t.2.2 }
def aY1:FA (Nat × Nat × Int):=bGr.run
theorem aOR {a b:List Int} (ha:gK a=true) (hb:gK b=true):aY1 [W8 a,W8 b]=some (KW a b):=vF _ ha hb
theorem aD6:val iT=0:=by decide
theorem i7:cM 8 0=iT:=by decide
theorem Ph (n q:Nat) (h:n < 18446744073709551616 ^ q):bl n <= 64*q:=Ny (by rw [<-D9]; exact h)
theorem aG6 (m q:Nat) (h:m <= 64*q):2 ^ m <= 18446744073709551616 ^ q:=by
 rw [D9]; exact kM (by omega) h
theorem aY2:CallOk prog 154 bGr:=by
 refine lL (g:=BM) (fu:=λ _=>600) kD Γ_div Tryz.func154 (by kernel_rfl) ?_;intro args t ht;obtain ⟨a,b,rfl,ha,hb,rfl⟩:=DF ht;rw [aY0];by_cases h0:val b=0
 ·have e:b=iT:=by rw [<-oA hb,h0,i7]
  rw [aD e,aB];show _=some (HF (cM 8 (KW a b).1) (cM 8 (KW a b).2.1) (KW a b).2.2);rw [KW,aX h0,i7]
 ·have e:¬ b=iT:=by
   intro e; rw [e,aD6] at h0; exact h0 rfl
  rw [aJ e,aE,Pg ha,aC,Pg hb,aC];show _=some (HF (cM 8 (KW a b).1) (cM 8 (KW a b).2.1) (KW a b).2.2);rw [KW,aV h0];have va:=Aj ha;have vb:=Aj hb;obtain ⟨a1,a2⟩:=z7 (val a);obtain ⟨b1,b2⟩:=z7 (val b);have b2:=b2 h0;have la:bl (val a) <= 64*8:=Ph _ 8 (by rw [<-sG]; exact va);have lb:bl (val b) <= 64*8:=Ph _ 8 (by rw [<-sG]; exact vb);have lb1:1 <= bl (val b):=by
   unfold bl; rw [aV h0]; omega
  have ew:wi ((bl (val a):Int) - (bl (val b):Int))=(bl (val a):Int) - (bl (val b):Int):=bW (by omega) (by omega);rw [ew];have key:∀ m:Nat,(bl (val a):Int) - (bl (val b):Int)=(m:Int) - 1->Fr prog BM 600 Tryz.f154 TW (Ib prog BM 600 Tryz.f154 TW) 600 (some (aD5 b iT a ((m:Int) - 1)))=some (HF (cM 8 (val a / val b)) (cM 8 (val a%val b)) 0):=by
   intro m hm;have:=aG5 (b:=b) (A:=val a) (fu:=600) (K:=Ib prog BM 600 Tryz.f154 TW) hb m 600 0 (val a) (by omega) (by omega) (by omega) (Nat.dvd_zero _) ?_ va ?_
   ·rw [i7,oA ha] at this;exact this.trans (KT 600 _ _)
   ·refine dD a1 ?_;rw [show bl (val a)=bl (val b) - 1+m by omega,dV];exact sR _ b2
   ·rcases G8 m with h | h
    ·exact .inl h
    ·refine .inr ?_;have:val b*2 ^ (m - 1) < 2 ^ bl (val b)*2 ^ (m - 1):=Nat.mul_lt_mul_of_pos_right b1 (jF (by omega));rw [<-dV,show bl (val b)+(m - 1)=bl (val a) by omega] at this;refine dD this ?_;rw [sG];exact aG6 _ 8 la
  by_cases hlt:bl (val a) < bl (val b)
  ·have hab:val a < val b:=by
    refine dD a1 (dC (kM (by omega) (by omega)) b2)
   have hs:¬ (0:Int) <= (bl (val a):Int) - (bl (val b):Int):=by omega
   rw [lG hab,aY hab,oA ha,i7];rw [show (600:Nat)=599+1 from rfl,oT,BN,aJ hs,aE];exact KT (599+1) _ _
  ·have:=key (bl (val a) - bl (val b)+1) (by omega);rw [show (((bl (val a) - bl (val b)+1:Nat):Int) - 1)=(bl (val a):Int) - (bl (val b):Int) by omega] at this;exact this
def aG7:FA Nat:=BL.run
def Wr:FA Int:=sOf.run
def aG8:FA Nat:=Nq.run
def sLZ:Summ where
 T:=Nat
 run:=λ
  | [.c (.s (.pl (.int .u64 x)))]=>cond (iV x) (some (64 - bl x.toNat)) none
  | _=>none
 enc:=λ n=>.int .i64 (n:Int)
def rLZ:FA Nat:=sLZ.run
def KX:Summ where
 T:=Int × Int
 run:=λ
  | [.c (.s (.pl (.int .u64 h))),.c (.s (.pl (.int .u64 l))),.c (.s (.pl (.int .u64 y)))]=>cond (decide (y=10) && decide (0 <= h /\ h < 10) && iV l) (some ((h*18446744073709551616+l) / 10,(h*18446744073709551616+l)%10)) none
  | _=>none
 enc:=aF5
def Pi:FA (Int × Int):=KX.run
def W9:Summ where
 T:=Nat × Nat
 run:=KS λ a=>(val a / 10,val a%10)
 enc:=λ t=>.tup [.s (.pl (.agg (.ints .u64 (cM 8 t.1)) 8)),.s (.pl (.int .u8 (t.2:Int)))]
def XA:FA (Nat × Nat):=W9.run
def aD7:Nat->Nat->List Int
 | 0,_=>[]
 | k+1,n=>(48+(n%10:Nat):Int) :: (if n / 10=0 then [] else aD7 k (n / 10))
def aY3 (n:Nat):Str:=(aD7 200 n).reverse.map b8
def aAb:Summ where
 T:=Str
 run:=KS λ a=>aY3 (val a)
 enc:=λ t=>.str t
def qU (c:UInt8):Bool:=Nat.ble 48 c.toNat && Nat.ble c.toNat 57
def wW:Nat->Str->Nat
 | n,[]=>n
 | n,c :: r=>wW (n*10+(c.toNat - 48)) r
def yY (s:Str):Bool:=match s with
 | []=>false
 | [c]=>qU c
 | c :: r=>!(Nat.beq c.toNat 48) && (qU c && r.all qU)
def z8 (s:Str):Nat × Int:=cond (yY s) (cond (Nat.blt (wW 0 s) gD) (wW 0 s,0) (0,7)) (0,4)
def vQ:Summ where
 T:=Nat × Int
 run:=λ
  | [.c (.s (.pl (.str s)))]=>cond (decide (s.length <= 1099511627776)) (some (z8 s)) none
  | _=>none
 enc:=λ t=>.tup [.s (.pl (.agg (.ints .u64 (cM 8 t.1)) 8)),.s (.pl (.int .i64 t.2))]
def FE:FA (Nat × Int):=vQ.run
def gE:Summ where
 T:=Unit
 run:=λ
  | []=>some ()
  | _=>none
 enc:=λ _=>.bool true
def gM:FA Unit:=gE.run
end
end Go.Eng
