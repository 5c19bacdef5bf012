import Derived.Test.YtmicbaijcbkmjaaGreatZL1
namespace Go.Eng
open Go.IntKind (u64 i64 u8)
noncomputable section
open Go Go.Proofs
set_option linter.all false
abbrev wi (x:Int):Int:=i64.wrap x
def CH:Cg:=⟨⟨dD [],[],dS⟩,[(2,[0,2,3],[])]⟩
abbrev RT:List Nat:=[1,2]
def OD (ty:TypeId) (n:Nat) (xs:List Int) (i j:Int):St :=
 {tm:=[(0,.s (.own 0 n 1)),(2,.int .i64 i),(3,.int .i64 j),(28,.s (.own 0 n 1))],hp:=[(0,⟨ty,n*1,.t (.ints .u8 xs)⟩)],nx:=1,sz:=28 }
def OE (ty:TypeId) (n:Nat) (xs:List Int):St :=
 {tm:=[(28,.s (.own 0 n 1))],hp:=[(0,⟨ty,n*1,.t (.ints .u8 xs)⟩)],nx:=1,sz:=28 }
theorem aUx (fu:Nat) (ty:TypeId) (n:Nat) (xs:List Int):aIj prog Tryz.f241 CH fu ty (.ints .u8 xs) n 1 [] =
  DE prog CH fu Tryz.f241 RT (H6 prog CH fu Tryz.f241 RT n 1) fu (some (OD ty n xs 0 (wi ((n:Int) - 1)))):=by kernel_rfl
theorem JQ (fu:Nat) (ty:TypeId) (n:Nat) (xs:List Int):H6 prog CH fu Tryz.f241 RT n 1 (.exit 0) (OE ty n xs)=cond (Nat.beq n n && true) (some (.tup [],.ints .u8 xs)) none:=by kernel_rfl
theorem GN {β:Type} (fu:Nat) (ty:TypeId) (n:Nat) (xs:List Int) (i j:Int) (G:FG β) (H:FH β):VU prog CH fu Tryz.f241 RT G H (OD ty n xs i j) =
  cond (decide (i < j)) (cond (decide (0 <= j /\ j < (n:Int))) (cond (decide (0 <= i /\ i < (n:Int))) (cond (decide (0 <= i /\ i < (n:Int))) (cond (decide (0 <= j /\ j < (n:Int)))
   (G (some (OD ty n ((xs.set i.toNat (xs.getD j.toNat 0)).set j.toNat (xs.getD i.toNat 0)) (wi (i+1)) (wi (j - 1))))) none) none) none) none)
  (H (.exit 0) (some (OE ty n xs))):=by kernel_rfl
def ED (xs:List Int) (i:Nat):List Int:=(List.range xs.length).map λ k=>if k < i ∨ xs.length - 1 - k < i then xs.getD (xs.length - 1 - k) 0 else xs.getD k 0
theorem wL (xs:List Int) (i:Nat):(ED xs i).length=xs.length:=by simp [ED]
theorem AN (xs:List Int) (i k:Nat) (hk:k < xs.length):(ED xs i)[k]?=some (if k < i ∨ xs.length - 1 - k < i then xs.getD (xs.length - 1 - k) 0 else xs.getD k 0):=by
 simp [ED,kV,VJ hk]
theorem Z5 (xs:List Int):ED xs 0=xs:=by
 apply VI;intro k;by_cases hk:k < xs.length
 ·rw [AN xs 0 k hk];simp [List.getD,hk]
 ·rw [At (by rw [wL]; omega),At (by omega)]
theorem Lf (xs:List Int) (i k:Nat) (hk:k < xs.length):(ED xs i).getD k 0=(if k < i ∨ xs.length - 1 - k < i then xs.getD (xs.length - 1 - k) 0 else xs.getD k 0):=by
 rw [fU,AN xs i k hk]; rfl
theorem Z6 (xs:List Int) (i:Nat) (h:i < xs.length - 1 - i):((ED xs i).set i ((ED xs i).getD (xs.length - 1 - i) 0)).set (xs.length - 1 - i) ((ED xs i).getD i 0)=ED xs (i+1):=by
 apply VI;intro k;by_cases hk:k < xs.length
 ·rw [Lf xs i _ (by omega),Lf xs i _ (by omega),AN xs (i+1) k hk];have e1:¬ (xs.length - 1 - i < i ∨ xs.length - 1 - (xs.length - 1 - i) < i):=by omega
  have e2:¬ (i < i ∨ xs.length - 1 - i < i):=by omega
  rw [aW e1,aW e2];rw [VK,VK];by_cases h1:xs.length - 1 - i=k
  ·rw [aT h1,aT (by simp [wL]; omega),aT (by omega)];rw [show xs.length - 1 - k=i by omega]
  ·rw [aW h1];by_cases h2:i=k
   ·rw [aT h2,aT (by rw [wL]; omega),aT (by omega),h2]
   ·rw [aW h2,AN xs i k hk];by_cases h3:k < i ∨ xs.length - 1 - k < i
    ·rw [aT h3,aT (by omega)]
    ·rw [aW h3,aW (by omega)]
 ·rw [At (by simp [wL]; omega),At (by rw [wL]; omega)]
theorem RU (xs:List Int) (i:Nat) (h:xs.length <= i+i+1):ED xs i=xs.reverse:=by
 apply VI;intro k;by_cases hk:k < xs.length
 ·rw [AN xs i k hk,List.getElem?_reverse hk];have hg:∀ q,q < xs.length->xs[q]?=some (xs.getD q 0):=λ q hq=>by simp [List.getD,hq]
  by_cases h3:k < i ∨ xs.length - 1 - k < i
  ·rw [aT h3,hg _ (by omega)]
  ·rw [aW h3,hg _ (by omega),show xs.length - 1 - k=k by omega]
 ·rw [At (by rw [wL]; omega),At (by simp; omega)]
theorem aFn {x:Int} (h1:-9223372036854775808 <= x) (h2:x < 9223372036854775808):wi x=x:=by
 simp only [wi,IntKind.wrap,IntKind.signed,IntKind.bits];simp;omega
theorem aFo (fu:Nat) (ty:TypeId) (xs:List Int) (hn:xs.length <= 1099511627776):∀ (m n i:Nat),xs.length <= i+i+m->m < n->i <= xs.length ->
  DE prog CH fu Tryz.f241 RT (H6 prog CH fu Tryz.f241 RT xs.length 1) n (some (OD ty xs.length (ED xs i) i ((xs.length:Int) - 1 - i)))=some (.tup [],.ints .u8 xs.reverse):=by
 intro m
 induction m with
 | zero=>
  intro n i h1 h2 h3;obtain ⟨n,rfl⟩:=aP (by omega:n ≠ 0);have c:¬ ((i:Int) < (xs.length:Int) - 1 - i):=by omega
  rw [mD,GN,aH c,aD];show H6 prog CH fu Tryz.f241 RT xs.length 1 (.exit 0) (OE ty xs.length (ED xs i))=_;rw [JQ,lB,RU xs i (by omega)]; rfl
 | succ m ih=>
  intro n i h1 h2 h3;obtain ⟨n,rfl⟩:=aP (by omega:n ≠ 0);rw [mD,GN];by_cases c:(i:Int) < (xs.length:Int) - 1 - i
  ·have hj:(xs.length:Int) - 1 - i=((xs.length - 1 - i:Nat):Int):=by omega
   have b1:0 <= ((xs.length - 1 - i:Nat):Int) /\ ((xs.length - 1 - i:Nat):Int) < (xs.length:Int):=by omega
   have b2:0 <= (i:Int) /\ (i:Int) < (xs.length:Int):=by omega
   rw [aE c,aB,hj,aE b1,aB,aE b2,aB,aB,aB,bE,bE];rw [Z6 xs i (by omega),aFn (by omega) (by omega),aFn (by omega) (by omega)];rw [show ((i:Int)+1)=((i+1:Nat):Int) by omega,show (((xs.length - 1 - i:Nat):Int) - 1)=(xs.length:Int) - 1 - ((i+1:Nat):Int) by omega];exact ih n (i+1) (by omega) (by omega) (by omega)
  ·rw [aH c,aD];show H6 prog CH fu Tryz.f241 RT xs.length 1 (.exit 0) (OE ty xs.length (ED xs i))=_;rw [JQ,lB,RU xs i (by omega)]; rfl
def aFp:TRow->Nat->Nat->FA (Bool × AV × TRow)
 | .ints .u8 xs,n,1,[]=>some (decide (n <= 1099511627776),.tup [],.ints .u8 xs.reverse)
 | _,_,_,_=>none
theorem aL0:zB prog 241 (DF aFp):=by
 refine aBu (g:=CH) (fu:=λ _ n=>n+1) gG ⟨aK,λ _ _ h=>by cases h⟩ Tryz.func241 (by kernel_rfl) ?_;intro ty r len esz rest av r' hl hE;unfold aFp at hE;split at hE
 ·rename_i xs;simp only [lF,uX,bG] at hE;obtain ⟨hn,rfl,rfl⟩:=hE;have hl:xs.length=len:=by simpa [TRow.length] using hl
  subst hl;rw [aUx,aFn (by omega) (by omega)];have:=aFo (xs.length+1) ty xs hn xs.length (xs.length+1) 0 (by omega) (by omega) (by omega);rw [Z5] at this;simpa using this
 ·cases hE
def Z7:List UInt8:=[0,1,2,2]++(List.replicate 4 3++(List.replicate 8 4++(List.replicate 16 5++(List.replicate 32 6++(List.replicate 64 7++List.replicate 128 8)))))
def l1 (x:Int) (K:Int->Int->Option AV):Option AV:=cond (decide (4294967296 <= x)) (K (eK .u64 x 32) 32) (K x 0)
def l2 (x n:Int) (K:Int->Int->Option AV):Option AV:=cond (decide (65536 <= x)) (K (eK .u64 x 16) (wi (n+16))) (K x n)
def l3 (x n:Int) (K:Int->Int->Option AV):Option AV:=cond (decide (256 <= x)) (K (eK .u64 x 8) (wi (n+8))) (K x n)
def l4 (x n:Int):Option AV:=cond (decide (0 <= u8.wrap x /\ u8.wrap x < ((Z7.length:Nat):Int))) (some (.int .i64 (wi (n+wi (((Z7.getD (u8.wrap x).toNat 0).toNat:Nat):Int))))) none
theorem aFq (x:Int):bB prog Tryz.f134 CC Qc [.int .u64 x]=l1 x λ x n=>l2 x n λ x n=>l3 x n λ x n=>l4 x n:=by kernel_rfl
def bl (n:Nat):Nat:=if n=0 then 0 else n.log2+1
theorem EE {n k:Nat} (h:2 ^ k <= n):bl n=k+bl (n / 2 ^ k):=by
 have hp:0 < 2 ^ k:=gS (by omega);have h0:n ≠ 0:=by omega
 have h1:n / 2 ^ k ≠ 0:=by
  have:=Nat.div_pos h hp;omega
 unfold bl;rw [aW h0,aW h1];have:n.log2=k+(n / 2 ^ k).log2:=by
  rw [Nat.log2_eq_iff h0];have g1:=Nat.log2_self_le h1;have g2:n / 2 ^ k < 2 ^ ((n / 2 ^ k).log2+1):=Nat.lt_log2_self;generalize (n / 2 ^ k).log2=m at *;constructor
  ·have:=Nat.mul_le_of_le_div (2 ^ k) _ _ g1;rw [dM,cG]; exact this
  ·rw [BU hp,<-dM] at g2;rw [show k+m+1=m+1+k by omega]; exact g2
 omega
theorem aFr:Z7.length=256:=by decide +kernel
theorem aL1:∀ k:Fin 256,(Z7.getD k.val 0).toNat=bl k.val:=by decide +kernel
theorem JR {n k:Nat} (h:n < 2 ^ k):bl n <= k:=by
 unfold bl;split
 ·omega
 ·rename_i h0;have:=(Nat.log2_lt h0).2 h;omega
theorem yC (n:Nat):n < 2 ^ bl n /\ (n ≠ 0->2 ^ (bl n - 1) <= n):=by
 unfold bl;split
 ·rename_i h; subst h; simp
 ·rename_i h0;refine ⟨Nat.lt_log2_self,λ _=>?_⟩;rw [PQ]; exact Nat.log2_self_le h0
theorem aUy (x k:Nat) (hk:k < 64):eK .u64 (x:Int) ((k:Nat):Int)=((x / 2 ^ k:Nat):Int):=mX x k hk
theorem aPf (x n:Nat) (hx:x < 256) (hn:n <= 64):l4 x n=some (.int .i64 ((n+bl x:Nat):Int)):=by
 have hb:=JR (n:=x) (k:=8) hx;unfold l4;rw [Dn,aV hx];have:decide (0 <= ((x:Nat):Int) /\ ((x:Nat):Int) < ((Z7.length:Nat):Int))=true:=by
  rw [aFr]; simp only [bG]; omega
 rw [this,aB,bE,show (Z7.getD x 0).toNat=bl x from aL1 ⟨x,hx⟩];simp only [wi];rw [bY (n:=((bl x:Nat):Int)) (by omega) (by omega),bY (by omega) (by omega)];rfl
theorem aPg (x n:Nat) (hx:x < 65536) (hn:n <= 48):(l3 x n λ x n=>l4 x n)=some (.int .i64 ((n+bl x:Nat):Int)):=by
 unfold l3;by_cases h:256 <= x
 ·have h':(256:Int) <= x:=by omega
  simp only [h',oF,aB,wi];rw [show (8:Int)=((8:Nat):Int) from rfl,aUy x 8 (by omega),bY (by omega) (by omega),<-fZ,aPf _ _ (by omega) (by omega),EE (n:=x) (k:=8) h];congr 3; omega
 ·have h':¬ (256:Int) <= x:=by omega
  simp only [h',oE,aD];exact aPf x n (by omega) (by omega)
theorem aPh (x n:Nat) (hx:x < 4294967296) (hn:n <= 32):(l2 x n λ x n=>l3 x n λ x n=>l4 x n)=some (.int .i64 ((n+bl x:Nat):Int)):=by
 unfold l2;by_cases h:65536 <= x
 ·have h':(65536:Int) <= x:=by omega
  simp only [h',oF,aB,wi];rw [show (16:Int)=((16:Nat):Int) from rfl,aUy x 16 (by omega),bY (by omega) (by omega),<-fZ,aPg _ _ (by omega) (by omega),EE (n:=x) (k:=16) h];congr 3; omega
 ·have h':¬ (65536:Int) <= x:=by omega
  simp only [h',oE,aD];exact aPg x n (by omega) (by omega)
theorem aYn (x:Nat) (hx:x < 18446744073709551616):(l1 x λ x n=>l2 x n λ x n=>l3 x n λ x n=>l4 x n)=some (.int .i64 ((bl x:Nat):Int)):=by
 unfold l1;by_cases h:4294967296 <= x
 ·have h':(4294967296:Int) <= x:=by omega
  simp only [h',oF,aB];rw [show (32:Int)=((32:Nat):Int) from rfl,aUy x 32 (by omega),aPh _ _ (by omega) (by omega),EE (n:=x) (k:=32) h]
 ·have h':¬ (4294967296:Int) <= x:=by omega
  simp only [h',oE,aD];have:=aPh x 0 (by omega) (by omega);rw [bS] at this;exact this
def AO:Summ where
 T:=Nat
 run:=λ
  | [.c (.s (.pl (.int .u64 x)))]=>cond (hO x) (some (bl x.toNat)) none
  | _=>none
 enc:=λ n=>.int .i64 n
theorem RV:CallOk prog 134 AO:=by
 refine jP (g:=CC) (fu:=λ _=>Qc) gG aK Tryz.func134 (by kernel_rfl) ?_;intro args t ht;simp only [AO] at ht;split at ht
 ·rename_i x;obtain ⟨h1,h2⟩:=aY ht;simp only [hO,bG] at h1;cases h2;obtain ⟨x,rfl⟩:=b9 h1.1;rw [aFq,aYn x (by omega)];rfl
 ·cases ht
def aFs:Cg:=⟨⟨dD [(134,AO)],[],dS⟩,[(3,[1,2,3],[2])]⟩
theorem Γ_len:∀ f A,aFs.c.Γ f=some A->CallOk prog f A:=aA RV aK
def aFt (L:FA Nat):List Int->Int->Option AV
 | a :: r,i=>cond (!decide (a=0)) ((L [.int .u64 a]).bind λ t=>some (.int .i64 (wi (wi (i*64)+t)))) (aFt L r (wi (i - 1)))
 | [],_=>some (.int .i64 0)
theorem aUz (a0 a1 a2 a3 a4 a5 a6 a7:Int):bB prog Tryz.f88 aFs 20 [W8 [a0,a1,a2,a3,a4,a5,a6,a7]]=aFt AO.run [a7,a6,a5,a4,a3,a2,a1,a0] 7:=by kernel_rfl
theorem Lg (x:Nat) (hx:x < 18446744073709551616):AO.run [.int .u64 x]=some (bl x):=by
 have h1:hO (x:Int)=true:=by simp only [hO,bG]; omega
 simp only [AO,h1,aB,bE]
theorem Xf:bl 0=0:=by simp [bl]
theorem Z8 (p b v s:Nat):(b+18446744073709551616*s)*p+v=s*(p*18446744073709551616)+(b*p+v):=by
 generalize 18446744073709551616=q;grind
theorem UR:∀ (x:List Int) (s:Nat),qR x=true->gD x s=s*18446744073709551616 ^ x.length+gD x 0 /\ gD x 0 < 18446744073709551616 ^ x.length:=by
 intro x
 induction x with
 | nil=>intro s _; simp [gD]
 | cons a x ih=>
  intro s h;simp only [qR,aX,bG] at h;simp only [gD];obtain ⟨h1,h2⟩:=ih (a.toNat+18446744073709551616*s) h.2;obtain ⟨h3,_⟩:=ih (a.toNat+18446744073709551616*0) h.2;have ha:a.toNat < 18446744073709551616:=by omega
  rw [h1,h3];simp only [fF,bM,sM,fH];generalize 18446744073709551616 ^ x.length=p at *;generalize a.toNat=b at *;generalize gD x 0=v at *;constructor
  ·exact Z8 p b v s
  ·have:(b+1)*p <= 18446744073709551616*p:=pT _ (by omega);rw [gL] at this;omega
theorem aL2:∀ (x:List Int),qR x=true->x.length <= 8->aFt AO.run x ((x.length:Int) - 1)=some (.int .i64 ((bl (gD x 0):Nat):Int)):=by
 intro x
 induction x with
 | nil=>intro _ _; simp [aFt,gD,Xf]
 | cons a x ih=>
  intro h hl;have h':=h;simp only [qR,aX,bG] at h;simp only [fF] at hl;obtain ⟨A,rfl⟩:=b9 h.1.1;have e1:(((((A:Int) :: x).length:Nat):Int) - 1)=(x.length:Int):=by simp
  rw [e1];simp only [aFt,gD,sM,fH,bE];by_cases h0:A=0
  ·subst h0;have e2:wi ((x.length:Int) - 1)=(x.length:Int) - 1:=bY (by omega) (by omega);rw [e2,ih h.2 (by omega)];simp
  ·have hA:¬ (A:Int)=0:=by omega
   obtain ⟨g1,g2⟩:=UR x A h.2;have hb:=JR (n:=A) (k:=64) (by omega);have hd:(!decide ((A:Int)=0))=true:=by rw [aH hA]; rfl
   rw [hd,aB,Lg A (by omega),aC];simp only [wi];rw [bY (n:=(x.length:Int)*64) (by omega) (by omega),bY (by omega) (by omega)];have e3:bl (gD x A)=64*x.length+bl A:=by
    rw [CB] at g1 g2;have hp:0 < 2 ^ (64*x.length):=gS (by omega);have hge:2 ^ (64*x.length) <= gD x A:=by
     rw [g1];have:1*2 ^ (64*x.length) <= A*2 ^ (64*x.length):=pT _ (by omega);omega
    rw [EE hge];have e5:gD x A / 2 ^ (64*x.length)=A:=by rw [g1,cG,Nat.mul_add_div hp,jJ g2,fH]
    rw [e5]
   rw [e3];have e4:(x.length:Int)*64+((bl A:Nat):Int)=((64*x.length+bl A:Nat):Int):=by omega
   rw [e4]
def Kb {T:Type} (F:List Int->T):FA T
 | [.c (.s (.pl (.agg (.ints .u64 a) 8)))]=>cond (jO a) (some (F a)) none
 | _=>none
theorem yD {T:Type} {F:List Int->T} {args:List AV} {t:T} (h:Kb F args=some t):∃ a,args=[W8 a] /\ jO a=true /\ t=F a:=by
 unfold Kb at h;split at h
 ·rename_i a;obtain ⟨h1,h2⟩:=aY h;cases h2;exact ⟨a,rfl,h1,rfl⟩
 ·cases h
def aL3:Summ:={ T:=Nat,run:=Kb λ a=>bl (val a),enc:=λ n=>.int .i64 n }
theorem US:CallOk prog 88 aL3:=by
 refine jP (g:=aFs) (fu:=λ _=>20) gG Γ_len Tryz.func88 (by kernel_rfl) ?_;intro args t ht;obtain ⟨a,rfl,ha,rfl⟩:=yD ht;have ha':=tC ha;obtain ⟨a0,a1,a2,a3,a4,a5,a6,a7,rfl⟩:=wC ha;rw [aUz];have:=aL2 [a7,a6,a5,a4,a3,a2,a1,a0] (NW ha') (by simp);rw [Ig] at this;exact this
def AP:Cg:=⟨⟨dD [(88,aL3),(133,NY),(91,aTr),(92,aKP)],[],dS⟩,[(7,[3,4,5,6,7,8,9],[4,5,6,7,8])]⟩
theorem Γ_div:∀ f A,AP.c.Γ f=some A->CallOk prog f A:=aA US (aA Ik (aA aDD (aA NV aK)))
def aFu:FA Nat:=aL3.run
def qZ:FA Nat:=NY.run
def aFv:FA Int:=aTr.run
def UT:FA (Nat × Bool):=aKP.run
def Kc:FA (Nat × Bool):=aXL.run
def Z9:FA (Nat × Bool):=aKU.run
abbrev RW:List Nat:=[1,1,1,1,0,1,2]
def aAa (b q r:List Int) (s:Int):St :=
 {tm:=[(3,.s (.ptr 0 0 8)),(4,.s (.ptr 1 0 8)),(5,.s (.ptr 2 0 8)),(6,.int .i64 0),(7,.s (.ptr 3 0 8)),(8,.s (.ptr 4 0 8)),(9,.int .i64 s)],
  hp:=[(0,⟨tW,8,.t (.ints .u64 b)⟩),(1,⟨tW,8,.t (.ints .u64 gH)⟩),(2,⟨tW,8,.t (.ints .u64 gH)⟩),(3,⟨tW,8,.t (.ints .u64 q)⟩),(4,⟨tW,8,.t (.ints .u64 r)⟩)],nx:=5,sz:=50 }
def aUA (q r:List Int):St :=
 {tm:=[(4,.s (.ptr 0 0 8)),(5,.s (.ptr 1 0 8)),(6,.int .i64 0),(7,.s (.ptr 2 0 8)),(8,.s (.ptr 3 0 8))],
  hp:=[(0,⟨tW,8,.t (.ints .u64 gH)⟩),(1,⟨tW,8,.t (.ints .u64 gH)⟩),(2,⟨tW,8,.t (.ints .u64 q)⟩),(3,⟨tW,8,.t (.ints .u64 r)⟩)],nx:=4,sz:=50 }
abbrev FU (q r:List Int) (e:Int):AV:=.tup [.s (.pl (.agg (.ints .u64 q) 8)),.s (.pl (.agg (.ints .u64 r) 8)),.s (.pl (.int .i64 e))]
theorem aUB (fu:Nat) (a b:List Int):bB prog Tryz.f187 AP fu [W8 a,W8 b]=cond (decide (b=gH)) (some (FU gH gH 9))
  ((aFu [W8 a]).bind λ x:Nat=>(aFu [W8 b]).bind λ y:Nat=>DE prog AP fu Tryz.f187 RW (F5 prog AP fu Tryz.f187 RW) fu (some (aAa b gH a (wi (x - y))))):=by kernel_rfl
theorem JS (fu:Nat) (q r:List Int):F5 prog AP fu Tryz.f187 RW (.exit 0) (aUA q r)=some (FU q r 0):=by kernel_rfl
theorem AQ (fu:Nat) (b q r:List Int) (s:Int) (G:Option St->Option AV) (H:Ex->Option St->Option AV):VU prog AP fu Tryz.f187 RW G H (aAa b q r s) =
  cond (decide (0 <= s)) ((qZ [W8 b,.int .i64 s]).bind λ t:Nat=>(aFv [W8 r,W8 (cQ 8 t)]).bind λ c:Int=>cond (decide (0 <= c))
   ((UT [W8 r,W8 (cQ 8 t)]).bind λ d:Nat × Bool=>cond (inB s) (cond (decide (s.tmod 64 < 0)) none (cond (inB s)
    (G (some (aAa b (q.set (Ih s) (Dx .u64 (q.getD (Ih s) 0) (j8 .u64 1 (s.tmod 64)))) (cQ 8 d.1) (wi (s - 1))))) none)) none)
   (G (some (aAa b q r (wi (s - 1)))))) (H (.exit 0) (some (aUA q r))):=by kernel_rfl
theorem RX:∀ (k q n m:Nat),q < k->n / 18446744073709551616 ^ q%18446744073709551616+m < 18446744073709551616 ->
  (cQ k n).set q (((n / 18446744073709551616 ^ q%18446744073709551616+m:Nat)):Int)=cQ k (n+18446744073709551616 ^ q*m):=by
 intro k
 induction k with
 | zero=>intro q n m h; omega
 | succ k ih=>
  intro q n m h hm;cases q with
  | zero=>
   simp only [jL,uS,pV] at hm ⊢;simp only [cQ,yS];have e1:(n+m)%18446744073709551616=n%18446744073709551616+m:=by omega
   have e2:(n+m) / 18446744073709551616=n / 18446744073709551616:=by omega
   rw [e1,e2]
  | succ q=>
   simp only [cQ,Hj];have e1:n / 18446744073709551616 ^ (q+1)=n / 18446744073709551616 / 18446744073709551616 ^ q:=by
    rw [bM,cG (_ ^ q),gR]
   rw [e1] at hm ⊢;rw [ih q (n / 18446744073709551616) m (by omega) hm];have e2:n+18446744073709551616 ^ (q+1)*m=n+18446744073709551616*(18446744073709551616 ^ q*m):=by
    rw [bM,cG (_ ^ q),d9]
   rw [e2];have e3:(n+18446744073709551616*(18446744073709551616 ^ q*m))%18446744073709551616=n%18446744073709551616:=by omega
   have e4:(n+18446744073709551616*(18446744073709551616 ^ q*m)) / 18446744073709551616=n / 18446744073709551616+18446744073709551616 ^ q*m:=by omega
   rw [e3,e4]
theorem GO (h r:Nat):2 ^ (r+1)*h ||| 2 ^ r=2 ^ (r+1)*h+2 ^ r :=
 (yV (Nat.pow_lt_pow_right (by omega) (by omega)) h).symm
theorem aL4 (Q j:Nat) (hj:j < 512) (hd:2 ^ (j+1) ∣ Q) :
  (cQ 8 Q).set (Ih j) (Dx .u64 ((cQ 8 Q).getD (Ih j) 0) (j8 .u64 1 ((j:Int).tmod 64)))=cQ 8 (Q+2 ^ j):=by
 obtain ⟨_,g2,g3⟩:=Qg j hj;have hq:j / 64 < 8:=by omega
 have hr:j%64 < 64:=bK _ (by omega);obtain ⟨h,rfl⟩:=hd;have hr2:2 ^ (j%64) <= 2 ^ 63:=iK (by omega) (by omega);have hp:(2:Nat) ^ 63=9223372036854775808:=by decide
 have hx:∃ x,2 ^ (j+1)*h / 18446744073709551616 ^ (j / 64)%18446744073709551616=2 ^ (j%64+1)*x:=by
  rw [CB,show 2 ^ (j+1)=2 ^ (64*(j / 64))*2 ^ (j%64+1) by rw [<-dM]; congr 1; omega,d9,Nat.mul_div_cancel_left _ (gS (by omega))];have e:18446744073709551616=2 ^ (j%64+1)*2 ^ (63 - j%64):=by
   rw [<-dM,show j%64+1+(63 - j%64)=64 by omega]
  rw [e,Nat.mul_mod_mul_left];exact ⟨_,rfl⟩
 obtain ⟨x,hx⟩:=hx;have hxl:2 ^ (j%64+1)*x < 18446744073709551616:=by rw [<-hx]; exact bK _ (by omega)
 have hsum:2 ^ (j%64+1)*x+2 ^ (j%64) < 18446744073709551616:=by
  rw [<-GO];exact Hp (n:=64) hxl (by omega)
 rw [g2,g3,wD 8 _ _ hq,show (1:Int)=((1:Nat):Int) from rfl,Do 1 _ hr,pV,aV (by omega:2 ^ (j%64) < 18446744073709551616)];rw [NR _ _ (by rw [hx]; exact hxl) (by omega),hx,GO,<-hx];rw [RX 8 _ _ _ hq (by rw [hx]; exact hsum)];rw [CB,<-dM,show 64*(j / 64)+j%64=j by omega]
theorem wM {b:List Int} (hb:jO b=true) (i:Int):qZ [W8 b,.int .i64 i]=some (xQ (val b) i):=by
 show cond (jO b) _ none=_;rw [hb]; rfl
theorem wN {T:Type} (F:List Int->List Int->T) {a b:List Int} (ha:jO a=true) (hb:jO b=true):Qf F [W8 a,W8 b]=some (F a b):=by
 show cond (jO a && jO b) _ none=_;rw [ha,hb]; rfl
theorem wO {T:Type} (F:List Int->T) {a:List Int} (ha:jO a=true):Kb F [W8 a]=some (F a):=by
 show cond (jO a) _ none=_;rw [ha]; rfl
theorem Xg {a b:List Int} (ha:jO a=true) (hb:jO b=true):aFv [W8 a,W8 b]=some (qS (val a) (val b)):=wN (λ a b=>qS (val a) (val b)) ha hb
theorem OG {a b:List Int} (ha:jO a=true) (hb:jO b=true):UT [W8 a,W8 b]=some (Tc a b):=wN _ ha hb
theorem OH {a b:List Int} (ha:jO a=true) (hb:jO b=true):Kc [W8 a,W8 b]=some (Tb a b):=wN _ ha hb
theorem aL5 {a b:List Int} (ha:jO a=true) (hb:jO b=true):Z9 [W8 a,W8 b]=some (aKT a b):=wN _ ha hb
theorem OI {a:List Int} (ha:jO a=true):aFu [W8 a]=some (bl (val a)):=wO (λ a=>bl (val a)) ha
theorem JT:0 < fK:=by decide +kernel
theorem RY (n:Nat):cQ 8 (n+fK)=cQ 8 n:=by
 rw [<-QZ (n+fK),Nat.add_mod_right,QZ]
theorem BJ (x y:Nat):decide ((0:Int) <= qS x y)=decide (y <= x):=by
 unfold qS;by_cases h1:x < y
 ·have:¬ y <= x:=by omega
  simp [h1,this]
 ·by_cases h2:y < x
  ·have:y <= x:=by omega
   simp [h1,h2,this]
  ·have:y <= x:=by omega
   simp [h1,h2,this]
theorem aFw {b:List Int} {A fu:Nat} {K:Ex->St->Option AV} (hb:jO b=true):∀ (m:Nat) (n Q R:Nat),m <= 512->m < n->A=Q*val b+R->2 ^ m ∣ Q->R < val b*2 ^ m->R < fK->(m=0 ∨ val b*2 ^ (m - 1) < fK) ->
  DE prog AP fu Tryz.f187 RW K n (some (aAa b (cQ 8 Q) (cQ 8 R) ((m:Int) - 1)))=K (.exit 0) (aUA (cQ 8 (A / val b)) (cQ 8 (A%val b))):=by
 intro m
 induction m with
 | zero=>
  intro n Q R _ hn hA _ hR _ _;obtain ⟨n,rfl⟩:=aP (by omega:n ≠ 0);rw [jL,iY] at hR;have e1:A / val b=Q:=by
   rw [hA,cG,Nat.mul_add_div (by omega),jJ hR,fH]
  have e2:A%val b=R:=by
   rw [hA,cG,Nat.mul_add_mod,aV hR]
  rw [e1,e2,mD,AQ];rfl
 | succ m ih=>
  intro n Q R hm hn hA hd hR hRM hB;obtain ⟨n,rfl⟩:=aP (by omega:n ≠ 0)
  have hB' : val b * 2 ^ m < fK := by rcases hB with hB | hB; · omega
                                      · simpa using hB
  have es:(((m+1:Nat):Int) - 1)=(m:Int):=by omega
  rw [es];obtain ⟨g1,g2,g3⟩:=Qg m (by omega);have hneg:¬ ((m:Int).tmod 64 < 0):=by rw [g3]; omega
  have h0:(0:Int) <= (m:Int):=by omega
  have esh:xQ (val b) (m:Int)=val b*2 ^ m:=by
   unfold xQ;have c1:(decide ((512:Int) <= m) || decide ((m:Int) <= -512))=false:=by
    have:¬ (512:Int) <= m:=by omega
    have h2:¬ (m:Int) <= -512:=by omega
    simp [this,h2]
   have c2:decide ((m:Int) < 0)=false:=by
    have:¬ (m:Int) < 0:=by omega
    simp [this]
   rw [c1,c2,aD,aD,bE]
  have vT:val (cQ 8 (val b*2 ^ m))=val b*2 ^ m:=by rw [kL,aV hB']
  have vR:val (cQ 8 R)=R:=by rw [kL,aV hRM]
  have ew:wi ((m:Int) - 1)=(m:Int) - 1:=bY (by omega) (by omega);have rC:aFv [W8 (cQ 8 R),W8 (cQ 8 (val b*2 ^ m))]=some (qS R (val b*2 ^ m)):=by
   rw [Xg (fA _) (fA _),vR,vT]
  have rS:UT [W8 (cQ 8 R),W8 (cQ 8 (val b*2 ^ m))]=some (R+fK - val b*2 ^ m,decide (val b*2 ^ m <= R)):=by
   rw [OG (fA _) (fA _),Tc,vR,vT]
  rw [mD,AQ,wM hb,esh];have dv:2 ^ m ∣ Q:=pR (Nat.pow_dvd_pow 2 (by omega)) hd;have hmm:m=0 ∨ val b*2 ^ (m - 1) < fK:=by
   rcases Ee m with h | h
   ·exact .inl h
   ·refine .inr (iI (yU _ (iK (by omega) (by omega))) hB')
  rw [aE h0,aB,aC,rC,aC,BJ];by_cases hge:val b*2 ^ m <= R
  ·rw [aE hge,aB,rS,aC,g1,aB,aH hneg,aD,aB,aL4 Q m (by omega) hd,ew];have er:cQ 8 (R+fK - val b*2 ^ m)=cQ 8 (R - val b*2 ^ m):=by
    rw [show R+fK - val b*2 ^ m=R - val b*2 ^ m+fK by omega,RY]
   rw [er];refine ih n (Q+2 ^ m) (R - val b*2 ^ m) (by omega) (by omega) ?_ (Nat.dvd_add dv (Nat.dvd_refl _)) ?_ (by omega) hmm
   ·rw [gL,cG (2 ^ m)]; omega
   ·rw [bM,<-d9] at hR; omega
  ·rw [aH hge,aD,ew];exact ih n Q R (by omega) (by omega) hA dv (by omega) hRM hmm
def JU (a b:List Int):Nat × Nat × Int:=if val b=0 then (0,0,9) else (val a / val b,val a%val b,0)
def aYo:Summ:={ T:=Nat × Nat × Int,run:=Qf JU,enc:=λ t=>FU (cQ 8 t.1) (cQ 8 t.2.1) t.2.2 }
def aUC:FA (Nat × Nat × Int):=aYo.run
theorem aL6 {a b:List Int} (ha:jO a=true) (hb:jO b=true):aUC [W8 a,W8 b]=some (JU a b):=wN _ ha hb
theorem aAb:val gH=0:=by decide
theorem gN:cQ 8 0=gH:=by decide
theorem OJ (n q:Nat) (h:n < 18446744073709551616 ^ q):bl n <= 64*q:=JR (by rw [<-CB]; exact h)
theorem aFx (m q:Nat) (h:m <= 64*q):2 ^ m <= 18446744073709551616 ^ q:=by
 rw [CB]; exact iK (by omega) h
theorem aUD:CallOk prog 187 aYo:=by
 refine jP (g:=AP) (fu:=λ _=>600) gG Γ_div Tryz.func187 (by kernel_rfl) ?_;intro args t ht;obtain ⟨a,b,rfl,ha,hb,rfl⟩:=Dr ht;rw [aUB];by_cases h0:val b=0
 ·have e:b=gH:=by rw [<-nL hb,h0,gN]
  rw [aE e,aB];show _=some (FU (cQ 8 (JU a b).1) (cQ 8 (JU a b).2.1) (JU a b).2.2);rw [JU,aT h0,gN]
 ·have e:¬ b=gH:=by
   intro e; rw [e,aAb] at h0; exact h0 rfl
  rw [aH e,aD,OI ha,aC,OI hb,aC];show _=some (FU (cQ 8 (JU a b).1) (cQ 8 (JU a b).2.1) (JU a b).2.2);rw [JU,aW h0];have va:=xP ha;have vb:=xP hb;obtain ⟨a1,a2⟩:=yC (val a);obtain ⟨b1,b2⟩:=yC (val b);have b2:=b2 h0;have la:bl (val a) <= 64*8:=OJ _ 8 (by rw [<-pI]; exact va);have lb:bl (val b) <= 64*8:=OJ _ 8 (by rw [<-pI]; exact vb);have lb1:1 <= bl (val b):=by
   unfold bl; rw [aW h0]; omega
  have ew:wi ((bl (val a):Int) - (bl (val b):Int))=(bl (val a):Int) - (bl (val b):Int):=bY (by omega) (by omega);rw [ew];have key:∀ m:Nat,(bl (val a):Int) - (bl (val b):Int)=(m:Int) - 1->DE prog AP 600 Tryz.f187 RW (F5 prog AP 600 Tryz.f187 RW) 600 (some (aAa b gH a ((m:Int) - 1)))=some (FU (cQ 8 (val a / val b)) (cQ 8 (val a%val b)) 0):=by
   intro m hm;have:=aFw (b:=b) (A:=val a) (fu:=600) (K:=F5 prog AP 600 Tryz.f187 RW) hb m 600 0 (val a) (by omega) (by omega) (by omega) (Nat.dvd_zero _) ?_ va ?_
   ·rw [gN,nL ha] at this;exact this.trans (JS 600 _ _)
   ·refine cU a1 ?_;rw [show bl (val a)=bl (val b) - 1+m by omega,dM];exact pT _ b2
   ·rcases Ee m with h | h
    ·exact .inl h
    ·refine .inr ?_;have:val b*2 ^ (m - 1) < 2 ^ bl (val b)*2 ^ (m - 1):=Nat.mul_lt_mul_of_pos_right b1 (gS (by omega));rw [<-dM,show bl (val b)+(m - 1)=bl (val a) by omega] at this;refine cU this ?_;rw [pI];exact aFx _ 8 la
  by_cases hlt:bl (val a) < bl (val b)
  ·have hab:val a < val b:=by
    refine cU a1 (cK (iK (by omega) (by omega)) b2)
   have hs:¬ (0:Int) <= (bl (val a):Int) - (bl (val b):Int):=by omega
   rw [jJ hab,aV hab,nL ha,gN];rw [show (600:Nat)=599+1 from rfl,mD,AQ,aH hs,aD];exact JS (599+1) _ _
  ·have:=key (bl (val a) - bl (val b)+1) (by omega);rw [show (((bl (val a) - bl (val b)+1:Nat):Int) - 1)=(bl (val a):Int) - (bl (val b):Int) by omega] at this;exact this
def aFy:FA Nat:=AO.run
def rOf:FA Int:=sOf.run
def aUE:FA Nat:=Ii.run
def sLZ:Summ where
 T:=Nat
 run:=λ
  | [.c (.s (.pl (.int .u64 x)))]=>cond (hO x) (some (64 - bl x.toNat)) none
  | _=>none
 enc:=λ n=>.int .i64 (n:Int)
def rLZ:FA Nat:=sLZ.run
def JV:Summ where
 T:=Int × Int
 run:=λ
  | [.c (.s (.pl (.int .u64 h))),.c (.s (.pl (.int .u64 l))),.c (.s (.pl (.int .u64 y)))]=>cond (decide (y=10) && decide (0 <= h /\ h < 10) && hO l) (some ((h*18446744073709551616+l) / 10,(h*18446744073709551616+l)%10)) none
  | _=>none
 enc:=ZU
def OK:FA (Int × Int):=JV.run
def UU:Summ where
 T:=Nat × Nat
 run:=Kb λ a=>(val a / 10,val a%10)
 enc:=λ t=>.tup [.s (.pl (.agg (.ints .u64 (cQ 8 t.1)) 8)),.s (.pl (.int .u8 (t.2:Int)))]
def UV:FA (Nat × Nat):=UU.run
def aAc:Nat->Nat->List Int
 | 0,_=>[]
 | k+1,n=>(48+(n%10:Nat):Int) :: (if n / 10=0 then [] else aAc k (n / 10))
def aUF (n:Nat):Str:=(aAc 200 n).reverse.map b8
def Xh:Summ where
 T:=Str
 run:=Kb λ a=>aUF (val a)
 enc:=λ t=>.str t
def oP (c:UInt8):Bool:=Nat.ble 48 c.toNat && Nat.ble c.toNat 57
def tS:Nat->Str->Nat
 | n,[]=>n
 | n,c :: r=>tS (n*10+(c.toNat - 48)) r
def wP (s:Str):Bool:=match s with
 | []=>false
 | [c]=>oP c
 | c :: r=>!(Nat.beq c.toNat 48) && (oP c && r.all oP)
def AR (s:Str):Nat × Int:=cond (wP s) (cond (Nat.blt (tS 0 s) fK) (tS 0 s,0) (0,7)) (0,4)
def tI:Summ where
 T:=Nat × Int
 run:=λ
  | [.c (.s (.pl (.str s)))]=>cond (decide (s.length <= 1099511627776)) (some (AR s)) none
  | _=>none
 enc:=λ t=>.tup [.s (.pl (.agg (.ints .u64 (cQ 8 t.1)) 8)),.s (.pl (.int .i64 t.2))]
def EF:FA (Nat × Int):=tI.run
def jQ:Summ where
 T:=Unit
 run:=λ
  | []=>some ()
  | _=>none
 enc:=λ _=>.bool true
def aFz:FA Unit:=jQ.run
end
end Go.Eng
