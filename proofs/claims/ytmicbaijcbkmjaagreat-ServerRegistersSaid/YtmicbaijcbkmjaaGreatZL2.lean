import Derived.Test.YtmicbaijcbkmjaaGreatZL1
namespace Go.Eng
open Go.IntKind (u64 i64 u8)
noncomputable section
open Go Go.Proofs
set_option linter.all false
abbrev wi (x:Int):Int:=i64.wrap x
def B9:Cg:=⟨⟨dE [],[],dR⟩,[(2,[0,2,3],[])]⟩
abbrev QI:List Nat:=[1,2]
def Mh (ty:TypeId) (n:Nat) (xs:List Int) (i j:Int):St :=
 {tm:=[(0,.s (.own 0 n 1)),(2,.int .i64 i),(3,.int .i64 j),(28,.s (.own 0 n 1))],hp:=[(0,⟨ty,n*1,.t (.ints .u8 xs)⟩)],nx:=1,sz:=28 }
def Mi (ty:TypeId) (n:Nat) (xs:List Int):St :=
 {tm:=[(28,.s (.own 0 n 1))],hp:=[(0,⟨ty,n*1,.t (.ints .u8 xs)⟩)],nx:=1,sz:=28 }
theorem aSe (fu:Nat) (ty:TypeId) (n:Nat) (xs:List Int):aNs prog Tryz.f241 B9 fu ty (.ints .u8 xs) n 1 [] =
  EY prog B9 fu Tryz.f241 QI (J3 prog B9 fu Tryz.f241 QI n 1) fu (some (Mh ty n xs 0 (wi ((n:Int) - 1)))):=by kernel_rfl
theorem IL (fu:Nat) (ty:TypeId) (n:Nat) (xs:List Int):J3 prog B9 fu Tryz.f241 QI n 1 (.exit 0) (Mi ty n xs)=cond (Nat.beq n n && true) (some (.tup [],.ints .u8 xs)) none:=by kernel_rfl
theorem GA {β:Type} (fu:Nat) (ty:TypeId) (n:Nat) (xs:List Int) (i j:Int) (G:FG β) (H:FH β):YU prog B9 fu Tryz.f241 QI G H (Mh ty n xs i j) =
  cond (decide (i < j)) (cond (decide (0 <= j /\ j < (n:Int))) (cond (decide (0 <= i /\ i < (n:Int))) (cond (decide (0 <= i /\ i < (n:Int))) (cond (decide (0 <= j /\ j < (n:Int)))
   (G (some (Mh ty n ((xs.set i.toNat (xs.getD j.toNat 0)).set j.toNat (xs.getD i.toNat 0)) (wi (i+1)) (wi (j - 1))))) none) none) none) none)
  (H (.exit 0) (some (Mi ty n xs))):=by kernel_rfl
def DL (xs:List Int) (i:Nat):List Int:=(List.range xs.length).map λ k=>if k < i ∨ xs.length - 1 - k < i then xs.getD (xs.length - 1 - k) 0 else xs.getD k 0
theorem vW (xs:List Int) (i:Nat):(DL xs i).length=xs.length:=by simp [DL]
theorem zW (xs:List Int) (i k:Nat) (hk:k < xs.length):(DL xs i)[k]?=some (if k < i ∨ xs.length - 1 - k < i then xs.getD (xs.length - 1 - k) 0 else xs.getD k 0):=by
 simp [DL,kV,VJ hk]
theorem ZK (xs:List Int):DL xs 0=xs:=by
 apply VI;intro k;by_cases hk:k < xs.length
 ·rw [zW xs 0 k hk];simp [List.getD,hk]
 ·rw [At (by rw [vW]; omega),At (by omega)]
theorem Kx (xs:List Int) (i k:Nat) (hk:k < xs.length):(DL xs i).getD k 0=(if k < i ∨ xs.length - 1 - k < i then xs.getD (xs.length - 1 - k) 0 else xs.getD k 0):=by
 rw [fU,zW xs i k hk]; rfl
theorem ZL (xs:List Int) (i:Nat) (h:i < xs.length - 1 - i):((DL xs i).set i ((DL xs i).getD (xs.length - 1 - i) 0)).set (xs.length - 1 - i) ((DL xs i).getD i 0)=DL xs (i+1):=by
 apply VI;intro k;by_cases hk:k < xs.length
 ·rw [Kx xs i _ (by omega),Kx xs i _ (by omega),zW xs (i+1) k hk];have e1:¬ (xs.length - 1 - i < i ∨ xs.length - 1 - (xs.length - 1 - i) < i):=by omega
  have e2:¬ (i < i ∨ xs.length - 1 - i < i):=by omega
  rw [aW e1,aW e2];rw [VK,VK];by_cases h1:xs.length - 1 - i=k
  ·rw [aT h1,aT (by simp [vW]; omega),aT (by omega)];rw [show xs.length - 1 - k=i by omega]
  ·rw [aW h1];by_cases h2:i=k
   ·rw [aT h2,aT (by rw [vW]; omega),aT (by omega),h2]
   ·rw [aW h2,zW xs i k hk];by_cases h3:k < i ∨ xs.length - 1 - k < i
    ·rw [aT h3,aT (by omega)]
    ·rw [aW h3,aW (by omega)]
 ·rw [At (by simp [vW]; omega),At (by rw [vW]; omega)]
theorem QJ (xs:List Int) (i:Nat) (h:xs.length <= i+i+1):DL xs i=xs.reverse:=by
 apply VI;intro k;by_cases hk:k < xs.length
 ·rw [zW xs i k hk,List.getElem?_reverse hk];have hg:∀ q,q < xs.length->xs[q]?=some (xs.getD q 0):=λ q hq=>by simp [List.getD,hq]
  by_cases h3:k < i ∨ xs.length - 1 - k < i
  ·rw [aT h3,hg _ (by omega)]
  ·rw [aW h3,hg _ (by omega),show xs.length - 1 - k=k by omega]
 ·rw [At (by rw [vW]; omega),At (by simp; omega)]
theorem aCz {x:Int} (h1:-9223372036854775808 <= x) (h2:x < 9223372036854775808):wi x=x:=by
 simp only [wi,IntKind.wrap,IntKind.signed,IntKind.bits];simp;omega
theorem aCA (fu:Nat) (ty:TypeId) (xs:List Int) (hn:xs.length <= 1099511627776):∀ (m n i:Nat),xs.length <= i+i+m->m < n->i <= xs.length ->
  EY prog B9 fu Tryz.f241 QI (J3 prog B9 fu Tryz.f241 QI xs.length 1) n (some (Mh ty xs.length (DL xs i) i ((xs.length:Int) - 1 - i)))=some (.tup [],.ints .u8 xs.reverse):=by
 intro m
 induction m with
 | zero=>
  intro n i h1 h2 h3;obtain ⟨n,rfl⟩:=aP (by omega:n ≠ 0);have c:¬ ((i:Int) < (xs.length:Int) - 1 - i):=by omega
  rw [mN,GA,aH c,aD];show J3 prog B9 fu Tryz.f241 QI xs.length 1 (.exit 0) (Mi ty xs.length (DL xs i))=_;rw [IL,lB,QJ xs i (by omega)]; rfl
 | succ m ih=>
  intro n i h1 h2 h3;obtain ⟨n,rfl⟩:=aP (by omega:n ≠ 0);rw [mN,GA];by_cases c:(i:Int) < (xs.length:Int) - 1 - i
  ·have hj:(xs.length:Int) - 1 - i=((xs.length - 1 - i:Nat):Int):=by omega
   have b1:0 <= ((xs.length - 1 - i:Nat):Int) /\ ((xs.length - 1 - i:Nat):Int) < (xs.length:Int):=by omega
   have b2:0 <= (i:Int) /\ (i:Int) < (xs.length:Int):=by omega
   rw [aE c,aB,hj,aE b1,aB,aE b2,aB,aB,aB,bE,bE];rw [ZL xs i (by omega),aCz (by omega) (by omega),aCz (by omega) (by omega)];rw [show ((i:Int)+1)=((i+1:Nat):Int) by omega,show (((xs.length - 1 - i:Nat):Int) - 1)=(xs.length:Int) - 1 - ((i+1:Nat):Int) by omega];exact ih n (i+1) (by omega) (by omega) (by omega)
  ·rw [aH c,aD];show J3 prog B9 fu Tryz.f241 QI xs.length 1 (.exit 0) (Mi ty xs.length (DL xs i))=_;rw [IL,lB,QJ xs i (by omega)]; rfl
def aCB:TRow->Nat->Nat->FA (Bool × AV × TRow)
 | .ints .u8 xs,n,1,[]=>some (decide (n <= 1099511627776),.tup [],.ints .u8 xs.reverse)
 | _,_,_,_=>none
theorem aJj:yX prog 241 (EZ aCB):=by
 refine aHx (g:=B9) (fu:=λ _ n=>n+1) gH ⟨aK,λ _ _ h=>by cases h⟩ Tryz.func241 (by kernel_rfl) ?_;intro ty r len esz rest av r' hl hE;unfold aCB at hE;split at hE
 ·rename_i xs;simp only [lF,uX,bG] at hE;obtain ⟨hn,rfl,rfl⟩:=hE;have hl:xs.length=len:=by simpa [TRow.length] using hl
  subst hl;rw [aSe,aCz (by omega) (by omega)];have:=aCA (xs.length+1) ty xs hn xs.length (xs.length+1) 0 (by omega) (by omega) (by omega);rw [ZK] at this;simpa using this
 ·cases hE
def ZM:List UInt8:=[0,1,2,2]++(List.replicate 4 3++(List.replicate 8 4++(List.replicate 16 5++(List.replicate 32 6++(List.replicate 64 7++List.replicate 128 8)))))
def l1 (x:Int) (K:Int->Int->Option AV):Option AV:=cond (decide (4294967296 <= x)) (K (eK .u64 x 32) 32) (K x 0)
def l2 (x n:Int) (K:Int->Int->Option AV):Option AV:=cond (decide (65536 <= x)) (K (eK .u64 x 16) (wi (n+16))) (K x n)
def l3 (x n:Int) (K:Int->Int->Option AV):Option AV:=cond (decide (256 <= x)) (K (eK .u64 x 8) (wi (n+8))) (K x n)
def l4 (x n:Int):Option AV:=cond (decide (0 <= u8.wrap x /\ u8.wrap x < ((ZM.length:Nat):Int))) (some (.int .i64 (wi (n+wi (((ZM.getD (u8.wrap x).toNat 0).toNat:Nat):Int))))) none
theorem aCC (x:Int):bB prog Tryz.f134 CC Qq [.int .u64 x]=l1 x λ x n=>l2 x n λ x n=>l3 x n λ x n=>l4 x n:=by kernel_rfl
def bl (n:Nat):Nat:=if n=0 then 0 else n.log2+1
theorem DM {n k:Nat} (h:2 ^ k <= n):bl n=k+bl (n / 2 ^ k):=by
 have hp:0 < 2 ^ k:=gS (by omega);have h0:n ≠ 0:=by omega
 have h1:n / 2 ^ k ≠ 0:=by
  have:=Nat.div_pos h hp;omega
 unfold bl;rw [aW h0,aW h1];have:n.log2=k+(n / 2 ^ k).log2:=by
  rw [Nat.log2_eq_iff h0];have g1:=Nat.log2_self_le h1;have g2:n / 2 ^ k < 2 ^ ((n / 2 ^ k).log2+1):=Nat.lt_log2_self;generalize (n / 2 ^ k).log2=m at *;constructor
  ·have:=Nat.mul_le_of_le_div (2 ^ k) _ _ g1;rw [dM,cG]; exact this
  ·rw [BU hp,<-dM] at g2;rw [show k+m+1=m+1+k by omega]; exact g2
 omega
theorem aCD:ZM.length=256:=by decide +kernel
theorem aJk:∀ k:Fin 256,(ZM.getD k.val 0).toNat=bl k.val:=by decide +kernel
theorem IM {n k:Nat} (h:n < 2 ^ k):bl n <= k:=by
 unfold bl;split
 ·omega
 ·rename_i h0;have:=(Nat.log2_lt h0).2 h;omega
theorem xK (n:Nat):n < 2 ^ bl n /\ (n ≠ 0->2 ^ (bl n - 1) <= n):=by
 unfold bl;split
 ·rename_i h; subst h; simp
 ·rename_i h0;refine ⟨Nat.lt_log2_self,λ _=>?_⟩;rw [PQ]; exact Nat.log2_self_le h0
theorem aSf (x k:Nat) (hk:k < 64):eK .u64 (x:Int) ((k:Nat):Int)=((x / 2 ^ k:Nat):Int):=mV x k hk
theorem aOt (x n:Nat) (hx:x < 256) (hn:n <= 64):l4 x n=some (.int .i64 ((n+bl x:Nat):Int)):=by
 have hb:=IM (n:=x) (k:=8) hx;unfold l4;rw [Db,aV hx];have:decide (0 <= ((x:Nat):Int) /\ ((x:Nat):Int) < ((ZM.length:Nat):Int))=true:=by
  rw [aCD]; simp only [bG]; omega
 rw [this,aB,bE,show (ZM.getD x 0).toNat=bl x from aJk ⟨x,hx⟩];simp only [wi];rw [bY (n:=((bl x:Nat):Int)) (by omega) (by omega),bY (by omega) (by omega)];rfl
theorem aOu (x n:Nat) (hx:x < 65536) (hn:n <= 48):(l3 x n λ x n=>l4 x n)=some (.int .i64 ((n+bl x:Nat):Int)):=by
 unfold l3;by_cases h:256 <= x
 ·have h':(256:Int) <= x:=by omega
  simp only [h',oF,aB,wi];rw [show (8:Int)=((8:Nat):Int) from rfl,aSf x 8 (by omega),bY (by omega) (by omega),<-fZ,aOt _ _ (by omega) (by omega),DM (n:=x) (k:=8) h];congr 3; omega
 ·have h':¬ (256:Int) <= x:=by omega
  simp only [h',oE,aD];exact aOt x n (by omega) (by omega)
theorem aOv (x n:Nat) (hx:x < 4294967296) (hn:n <= 32):(l2 x n λ x n=>l3 x n λ x n=>l4 x n)=some (.int .i64 ((n+bl x:Nat):Int)):=by
 unfold l2;by_cases h:65536 <= x
 ·have h':(65536:Int) <= x:=by omega
  simp only [h',oF,aB,wi];rw [show (16:Int)=((16:Nat):Int) from rfl,aSf x 16 (by omega),bY (by omega) (by omega),<-fZ,aOu _ _ (by omega) (by omega),DM (n:=x) (k:=16) h];congr 3; omega
 ·have h':¬ (65536:Int) <= x:=by omega
  simp only [h',oE,aD];exact aOu x n (by omega) (by omega)
theorem aXL (x:Nat) (hx:x < 18446744073709551616):(l1 x λ x n=>l2 x n λ x n=>l3 x n λ x n=>l4 x n)=some (.int .i64 ((bl x:Nat):Int)):=by
 unfold l1;by_cases h:4294967296 <= x
 ·have h':(4294967296:Int) <= x:=by omega
  simp only [h',oF,aB];rw [show (32:Int)=((32:Nat):Int) from rfl,aSf x 32 (by omega),aOv _ _ (by omega) (by omega),DM (n:=x) (k:=32) h]
 ·have h':¬ (4294967296:Int) <= x:=by omega
  simp only [h',oE,aD];have:=aOv x 0 (by omega) (by omega);rw [bS] at this;exact this
def zX:Summ where
 T:=Nat
 run:=λ
  | [.c (.s (.pl (.int .u64 x)))]=>cond (hO x) (some (bl x.toNat)) none
  | _=>none
 enc:=λ n=>.int .i64 n
theorem QK:CallOk prog 134 zX:=by
 refine jR (g:=CC) (fu:=λ _=>Qq) gH aK Tryz.func134 (by kernel_rfl) ?_;intro args t ht;simp only [zX] at ht;split at ht
 ·rename_i x;obtain ⟨h1,h2⟩:=aY ht;simp only [hO,bG] at h1;cases h2;obtain ⟨x,rfl⟩:=b9 h1.1;rw [aCC,aXL x (by omega)];rfl
 ·cases ht
def aCE:Cg:=⟨⟨dE [(134,zX)],[],dR⟩,[(3,[1,2,3],[2])]⟩
theorem Γ_len:∀ f A,aCE.c.Γ f=some A->CallOk prog f A:=aA QK aK
def aCF (L:FA Nat):List Int->Int->Option AV
 | a :: r,i=>cond (!decide (a=0)) ((L [.int .u64 a]).bind λ t=>some (.int .i64 (wi (wi (i*64)+t)))) (aCF L r (wi (i - 1)))
 | [],_=>some (.int .i64 0)
theorem aSg (a0 a1 a2 a3 a4 a5 a6 a7:Int):bB prog Tryz.f88 aCE 20 [W8 [a0,a1,a2,a3,a4,a5,a6,a7]]=aCF zX.run [a7,a6,a5,a4,a3,a2,a1,a0] 7:=by kernel_rfl
theorem Ky (x:Nat) (hx:x < 18446744073709551616):zX.run [.int .u64 x]=some (bl x):=by
 have h1:hO (x:Int)=true:=by simp only [hO,bG]; omega
 simp only [zX,h1,aB,bE]
theorem Vv:bl 0=0:=by simp [bl]
theorem ZN (p b v s:Nat):(b+18446744073709551616*s)*p+v=s*(p*18446744073709551616)+(b*p+v):=by
 generalize 18446744073709551616=q;grind
theorem TJ:∀ (x:List Int) (s:Nat),qN x=true->gD x s=s*18446744073709551616 ^ x.length+gD x 0 /\ gD x 0 < 18446744073709551616 ^ x.length:=by
 intro x
 induction x with
 | nil=>intro s _; simp [gD]
 | cons a x ih=>
  intro s h;simp only [qN,aX,bG] at h;simp only [gD];obtain ⟨h1,h2⟩:=ih (a.toNat+18446744073709551616*s) h.2;obtain ⟨h3,_⟩:=ih (a.toNat+18446744073709551616*0) h.2;have ha:a.toNat < 18446744073709551616:=by omega
  rw [h1,h3];simp only [fF,bM,sM,fH];generalize 18446744073709551616 ^ x.length=p at *;generalize a.toNat=b at *;generalize gD x 0=v at *;constructor
  ·exact ZN p b v s
  ·have:(b+1)*p <= 18446744073709551616*p:=pT _ (by omega);rw [gL] at this;omega
theorem aJl:∀ (x:List Int),qN x=true->x.length <= 8->aCF zX.run x ((x.length:Int) - 1)=some (.int .i64 ((bl (gD x 0):Nat):Int)):=by
 intro x
 induction x with
 | nil=>intro _ _; simp [aCF,gD,Vv]
 | cons a x ih=>
  intro h hl;have h':=h;simp only [qN,aX,bG] at h;simp only [fF] at hl;obtain ⟨A,rfl⟩:=b9 h.1.1;have e1:(((((A:Int) :: x).length:Nat):Int) - 1)=(x.length:Int):=by simp
  rw [e1];simp only [aCF,gD,sM,fH,bE];by_cases h0:A=0
  ·subst h0;have e2:wi ((x.length:Int) - 1)=(x.length:Int) - 1:=bY (by omega) (by omega);rw [e2,ih h.2 (by omega)];simp
  ·have hA:¬ (A:Int)=0:=by omega
   obtain ⟨g1,g2⟩:=TJ x A h.2;have hb:=IM (n:=A) (k:=64) (by omega);have hd:(!decide ((A:Int)=0))=true:=by rw [aH hA]; rfl
   rw [hd,aB,Ky A (by omega),aC];simp only [wi];rw [bY (n:=(x.length:Int)*64) (by omega) (by omega),bY (by omega) (by omega)];have e3:bl (gD x A)=64*x.length+bl A:=by
    rw [CB] at g1 g2;have hp:0 < 2 ^ (64*x.length):=gS (by omega);have hge:2 ^ (64*x.length) <= gD x A:=by
     rw [g1];have:1*2 ^ (64*x.length) <= A*2 ^ (64*x.length):=pT _ (by omega);omega
    rw [DM hge];have e5:gD x A / 2 ^ (64*x.length)=A:=by rw [g1,cG,Nat.mul_add_div hp,jJ g2,fH]
    rw [e5]
   rw [e3];have e4:(x.length:Int)*64+((bl A:Nat):Int)=((64*x.length+bl A:Nat):Int):=by omega
   rw [e4]
def KO {T:Type} (F:List Int->T):FA T
 | [.c (.s (.pl (.agg (.ints .u64 a) 8)))]=>cond (jO a) (some (F a)) none
 | _=>none
theorem xL {T:Type} {F:List Int->T} {args:List AV} {t:T} (h:KO F args=some t):∃ a,args=[W8 a] /\ jO a=true /\ t=F a:=by
 unfold KO at h;split at h
 ·rename_i a;obtain ⟨h1,h2⟩:=aY h;cases h2;exact ⟨a,rfl,h1,rfl⟩
 ·cases h
def aJm:Summ:={ T:=Nat,run:=KO λ a=>bl (val a),enc:=λ n=>.int .i64 n }
theorem TK:CallOk prog 88 aJm:=by
 refine jR (g:=aCE) (fu:=λ _=>20) gH Γ_len Tryz.func88 (by kernel_rfl) ?_;intro args t ht;obtain ⟨a,rfl,ha,rfl⟩:=xL ht;have ha':=tA ha;obtain ⟨a0,a1,a2,a3,a4,a5,a6,a7,rfl⟩:=wF ha;rw [aSg];have:=aJl [a7,a6,a5,a4,a3,a2,a1,a0] (Nf ha') (by simp);rw [I0] at this;exact this
def zY:Cg:=⟨⟨dE [(88,aJm),(133,Nh),(91,aTD),(92,aKB)],[],dR⟩,[(7,[3,4,5,6,7,8,9],[4,5,6,7,8])]⟩
theorem Γ_div:∀ f A,zY.c.Γ f=some A->CallOk prog f A:=aA TK (aA I6 (aA aEa (aA Nd aK)))
def aCG:FA Nat:=aJm.run
def qM:FA Nat:=Nh.run
def aCH:FA Int:=aTD.run
def TL:FA (Nat × Bool):=aKB.run
def KP:FA (Nat × Bool):=aYh.run
def ZO:FA (Nat × Bool):=aKG.run
abbrev QL:List Nat:=[1,1,1,1,0,1,2]
def ZP (b q r:List Int) (s:Int):St :=
 {tm:=[(3,.s (.ptr 0 0 8)),(4,.s (.ptr 1 0 8)),(5,.s (.ptr 2 0 8)),(6,.int .i64 0),(7,.s (.ptr 3 0 8)),(8,.s (.ptr 4 0 8)),(9,.int .i64 s)],
  hp:=[(0,⟨tW,8,.t (.ints .u64 b)⟩),(1,⟨tW,8,.t (.ints .u64 gG)⟩),(2,⟨tW,8,.t (.ints .u64 gG)⟩),(3,⟨tW,8,.t (.ints .u64 q)⟩),(4,⟨tW,8,.t (.ints .u64 r)⟩)],nx:=5,sz:=50 }
def aSh (q r:List Int):St :=
 {tm:=[(4,.s (.ptr 0 0 8)),(5,.s (.ptr 1 0 8)),(6,.int .i64 0),(7,.s (.ptr 2 0 8)),(8,.s (.ptr 3 0 8))],
  hp:=[(0,⟨tW,8,.t (.ints .u64 gG)⟩),(1,⟨tW,8,.t (.ints .u64 gG)⟩),(2,⟨tW,8,.t (.ints .u64 q)⟩),(3,⟨tW,8,.t (.ints .u64 r)⟩)],nx:=4,sz:=50 }
abbrev E3 (q r:List Int) (e:Int):AV:=.tup [.s (.pl (.agg (.ints .u64 q) 8)),.s (.pl (.agg (.ints .u64 r) 8)),.s (.pl (.int .i64 e))]
theorem aSi (fu:Nat) (a b:List Int):bB prog Tryz.f187 zY fu [W8 a,W8 b]=cond (decide (b=gG)) (some (E3 gG gG 9))
  ((aCG [W8 a]).bind λ x:Nat=>(aCG [W8 b]).bind λ y:Nat=>EY prog zY fu Tryz.f187 QL (Gd prog zY fu Tryz.f187 QL) fu (some (ZP b gG a (wi (x - y))))):=by kernel_rfl
theorem IP (fu:Nat) (q r:List Int):Gd prog zY fu Tryz.f187 QL (.exit 0) (aSh q r)=some (E3 q r 0):=by kernel_rfl
theorem zZ (fu:Nat) (b q r:List Int) (s:Int) (G:Option St->Option AV) (H:Ex->Option St->Option AV):YU prog zY fu Tryz.f187 QL G H (ZP b q r s) =
  cond (decide (0 <= s)) ((qM [W8 b,.int .i64 s]).bind λ t:Nat=>(aCH [W8 r,W8 (cQ 8 t)]).bind λ c:Int=>cond (decide (0 <= c))
   ((TL [W8 r,W8 (cQ 8 t)]).bind λ d:Nat × Bool=>cond (inB s) (cond (decide (s.tmod 64 < 0)) none (cond (inB s)
    (G (some (ZP b (q.set (I3 s) (Du .u64 (q.getD (I3 s) 0) (j9 .u64 1 (s.tmod 64)))) (cQ 8 d.1) (wi (s - 1))))) none)) none)
   (G (some (ZP b q r (wi (s - 1)))))) (H (.exit 0) (some (aSh q r))):=by kernel_rfl
theorem QM:∀ (k q n m:Nat),q < k->n / 18446744073709551616 ^ q%18446744073709551616+m < 18446744073709551616 ->
  (cQ k n).set q (((n / 18446744073709551616 ^ q%18446744073709551616+m:Nat)):Int)=cQ k (n+18446744073709551616 ^ q*m):=by
 intro k
 induction k with
 | zero=>intro q n m h; omega
 | succ k ih=>
  intro q n m h hm;cases q with
  | zero=>
   simp only [jL,uS,pV] at hm ⊢;simp only [cQ,yS];have e1:(n+m)%18446744073709551616=n%18446744073709551616+m:=by omega
   have e2:(n+m) / 18446744073709551616=n / 18446744073709551616:=by omega
   rw [e1,e2]
  | succ q=>
   simp only [cQ,Hj];have e1:n / 18446744073709551616 ^ (q+1)=n / 18446744073709551616 / 18446744073709551616 ^ q:=by
    rw [bM,cG (_ ^ q),gR]
   rw [e1] at hm ⊢;rw [ih q (n / 18446744073709551616) m (by omega) hm];have e2:n+18446744073709551616 ^ (q+1)*m=n+18446744073709551616*(18446744073709551616 ^ q*m):=by
    rw [bM,cG (_ ^ q),d9]
   rw [e2];have e3:(n+18446744073709551616*(18446744073709551616 ^ q*m))%18446744073709551616=n%18446744073709551616:=by omega
   have e4:(n+18446744073709551616*(18446744073709551616 ^ q*m)) / 18446744073709551616=n / 18446744073709551616+18446744073709551616 ^ q*m:=by omega
   rw [e3,e4]
theorem GB (h r:Nat):2 ^ (r+1)*h ||| 2 ^ r=2 ^ (r+1)*h+2 ^ r :=
 (yV (Nat.pow_lt_pow_right (by omega) (by omega)) h).symm
theorem aJn (Q j:Nat) (hj:j < 512) (hd:2 ^ (j+1) ∣ Q) :
  (cQ 8 Q).set (I3 j) (Du .u64 ((cQ 8 Q).getD (I3 j) 0) (j9 .u64 1 ((j:Int).tmod 64)))=cQ 8 (Q+2 ^ j):=by
 obtain ⟨_,g2,g3⟩:=Qu j hj;have hq:j / 64 < 8:=by omega
 have hr:j%64 < 64:=bK _ (by omega);obtain ⟨h,rfl⟩:=hd;have hr2:2 ^ (j%64) <= 2 ^ 63:=iK (by omega) (by omega);have hp:(2:Nat) ^ 63=9223372036854775808:=by decide
 have hx:∃ x,2 ^ (j+1)*h / 18446744073709551616 ^ (j / 64)%18446744073709551616=2 ^ (j%64+1)*x:=by
  rw [CB,show 2 ^ (j+1)=2 ^ (64*(j / 64))*2 ^ (j%64+1) by rw [<-dM]; congr 1; omega,d9,Nat.mul_div_cancel_left _ (gS (by omega))];have e:18446744073709551616=2 ^ (j%64+1)*2 ^ (63 - j%64):=by
   rw [<-dM,show j%64+1+(63 - j%64)=64 by omega]
  rw [e,Nat.mul_mod_mul_left];exact ⟨_,rfl⟩
 obtain ⟨x,hx⟩:=hx;have hxl:2 ^ (j%64+1)*x < 18446744073709551616:=by rw [<-hx]; exact bK _ (by omega)
 have hsum:2 ^ (j%64+1)*x+2 ^ (j%64) < 18446744073709551616:=by
  rw [<-GB];exact Hp (n:=64) hxl (by omega)
 rw [g2,g3,wG 8 _ _ hq,show (1:Int)=((1:Nat):Int) from rfl,Dc 1 _ hr,pV,aV (by omega:2 ^ (j%64) < 18446744073709551616)];rw [NZ _ _ (by rw [hx]; exact hxl) (by omega),hx,GB,<-hx];rw [QM 8 _ _ _ hq (by rw [hx]; exact hsum)];rw [CB,<-dM,show 64*(j / 64)+j%64=j by omega]
theorem vX {b:List Int} (hb:jO b=true) (i:Int):qM [W8 b,.int .i64 i]=some (xQ (val b) i):=by
 show cond (jO b) _ none=_;rw [hb]; rfl
theorem vY {T:Type} (F:List Int->List Int->T) {a b:List Int} (ha:jO a=true) (hb:jO b=true):Qt F [W8 a,W8 b]=some (F a b):=by
 show cond (jO a && jO b) _ none=_;rw [ha,hb]; rfl
theorem vZ {T:Type} (F:List Int->T) {a:List Int} (ha:jO a=true):KO F [W8 a]=some (F a):=by
 show cond (jO a) _ none=_;rw [ha]; rfl
theorem Vw {a b:List Int} (ha:jO a=true) (hb:jO b=true):aCH [W8 a,W8 b]=some (qO (val a) (val b)):=vY (λ a b=>qO (val a) (val b)) ha hb
theorem Mj {a b:List Int} (ha:jO a=true) (hb:jO b=true):TL [W8 a,W8 b]=some (Tr a b):=vY _ ha hb
theorem Mk {a b:List Int} (ha:jO a=true) (hb:jO b=true):KP [W8 a,W8 b]=some (Tq a b):=vY _ ha hb
theorem aJo {a b:List Int} (ha:jO a=true) (hb:jO b=true):ZO [W8 a,W8 b]=some (aKF a b):=vY _ ha hb
theorem Ml {a:List Int} (ha:jO a=true):aCG [W8 a]=some (bl (val a)):=vZ (λ a=>bl (val a)) ha
theorem IQ:0 < fK:=by decide +kernel
theorem QN (n:Nat):cQ 8 (n+fK)=cQ 8 n:=by
 rw [<-Qn (n+fK),Nat.add_mod_right,Qn]
theorem Az (x y:Nat):decide ((0:Int) <= qO x y)=decide (y <= x):=by
 unfold qO;by_cases h1:x < y
 ·have:¬ y <= x:=by omega
  simp [h1,this]
 ·by_cases h2:y < x
  ·have:y <= x:=by omega
   simp [h1,h2,this]
  ·have:y <= x:=by omega
   simp [h1,h2,this]
theorem aCI {b:List Int} {A fu:Nat} {K:Ex->St->Option AV} (hb:jO b=true):∀ (m:Nat) (n Q R:Nat),m <= 512->m < n->A=Q*val b+R->2 ^ m ∣ Q->R < val b*2 ^ m->R < fK->(m=0 ∨ val b*2 ^ (m - 1) < fK) ->
  EY prog zY fu Tryz.f187 QL K n (some (ZP b (cQ 8 Q) (cQ 8 R) ((m:Int) - 1)))=K (.exit 0) (aSh (cQ 8 (A / val b)) (cQ 8 (A%val b))):=by
 intro m
 induction m with
 | zero=>
  intro n Q R _ hn hA _ hR _ _;obtain ⟨n,rfl⟩:=aP (by omega:n ≠ 0);rw [jL,iY] at hR;have e1:A / val b=Q:=by
   rw [hA,cG,Nat.mul_add_div (by omega),jJ hR,fH]
  have e2:A%val b=R:=by
   rw [hA,cG,Nat.mul_add_mod,aV hR]
  rw [e1,e2,mN,zZ];rfl
 | succ m ih=>
  intro n Q R hm hn hA hd hR hRM hB;obtain ⟨n,rfl⟩:=aP (by omega:n ≠ 0)
  have hB' : val b * 2 ^ m < fK := by rcases hB with hB | hB; · omega
                                      · simpa using hB
  have es:(((m+1:Nat):Int) - 1)=(m:Int):=by omega
  rw [es];obtain ⟨g1,g2,g3⟩:=Qu m (by omega);have hneg:¬ ((m:Int).tmod 64 < 0):=by rw [g3]; omega
  have h0:(0:Int) <= (m:Int):=by omega
  have esh:xQ (val b) (m:Int)=val b*2 ^ m:=by
   unfold xQ;have c1:(decide ((512:Int) <= m) || decide ((m:Int) <= -512))=false:=by
    have:¬ (512:Int) <= m:=by omega
    have h2:¬ (m:Int) <= -512:=by omega
    simp [this,h2]
   have c2:decide ((m:Int) < 0)=false:=by
    have:¬ (m:Int) < 0:=by omega
    simp [this]
   rw [c1,c2,aD,aD,bE]
  have vT:val (cQ 8 (val b*2 ^ m))=val b*2 ^ m:=by rw [kM,aV hB']
  have vR:val (cQ 8 R)=R:=by rw [kM,aV hRM]
  have ew:wi ((m:Int) - 1)=(m:Int) - 1:=bY (by omega) (by omega);have rC:aCH [W8 (cQ 8 R),W8 (cQ 8 (val b*2 ^ m))]=some (qO R (val b*2 ^ m)):=by
   rw [Vw (fA _) (fA _),vR,vT]
  have rS:TL [W8 (cQ 8 R),W8 (cQ 8 (val b*2 ^ m))]=some (R+fK - val b*2 ^ m,decide (val b*2 ^ m <= R)):=by
   rw [Mj (fA _) (fA _),Tr,vR,vT]
  rw [mN,zZ,vX hb,esh];have dv:2 ^ m ∣ Q:=pR (Nat.pow_dvd_pow 2 (by omega)) hd;have hmm:m=0 ∨ val b*2 ^ (m - 1) < fK:=by
   rcases Ee m with h | h
   ·exact .inl h
   ·refine .inr (iI (yU _ (iK (by omega) (by omega))) hB')
  rw [aE h0,aB,aC,rC,aC,Az];by_cases hge:val b*2 ^ m <= R
  ·rw [aE hge,aB,rS,aC,g1,aB,aH hneg,aD,aB,aJn Q m (by omega) hd,ew];have er:cQ 8 (R+fK - val b*2 ^ m)=cQ 8 (R - val b*2 ^ m):=by
    rw [show R+fK - val b*2 ^ m=R - val b*2 ^ m+fK by omega,QN]
   rw [er];refine ih n (Q+2 ^ m) (R - val b*2 ^ m) (by omega) (by omega) ?_ (Nat.dvd_add dv (Nat.dvd_refl _)) ?_ (by omega) hmm
   ·rw [gL,cG (2 ^ m)]; omega
   ·rw [bM,<-d9] at hR; omega
  ·rw [aH hge,aD,ew];exact ih n Q R (by omega) (by omega) hA dv (by omega) hRM hmm
def IR (a b:List Int):Nat × Nat × Int:=if val b=0 then (0,0,9) else (val a / val b,val a%val b,0)
def aXM:Summ:={ T:=Nat × Nat × Int,run:=Qt IR,enc:=λ t=>E3 (cQ 8 t.1) (cQ 8 t.2.1) t.2.2 }
def aSj:FA (Nat × Nat × Int):=aXM.run
theorem aJp {a b:List Int} (ha:jO a=true) (hb:jO b=true):aSj [W8 a,W8 b]=some (IR a b):=vY _ ha hb
theorem ZQ:val gG=0:=by decide
theorem gN:cQ 8 0=gG:=by decide
theorem Mm (n q:Nat) (h:n < 18446744073709551616 ^ q):bl n <= 64*q:=IM (by rw [<-CB]; exact h)
theorem aCJ (m q:Nat) (h:m <= 64*q):2 ^ m <= 18446744073709551616 ^ q:=by
 rw [CB]; exact iK (by omega) h
theorem aSk:CallOk prog 187 aXM:=by
 refine jR (g:=zY) (fu:=λ _=>600) gH Γ_div Tryz.func187 (by kernel_rfl) ?_;intro args t ht;obtain ⟨a,b,rfl,ha,hb,rfl⟩:=Df ht;rw [aSi];by_cases h0:val b=0
 ·have e:b=gG:=by rw [<-nK hb,h0,gN]
  rw [aE e,aB];show _=some (E3 (cQ 8 (IR a b).1) (cQ 8 (IR a b).2.1) (IR a b).2.2);rw [IR,aT h0,gN]
 ·have e:¬ b=gG:=by
   intro e; rw [e,ZQ] at h0; exact h0 rfl
  rw [aH e,aD,Ml ha,aC,Ml hb,aC];show _=some (E3 (cQ 8 (IR a b).1) (cQ 8 (IR a b).2.1) (IR a b).2.2);rw [IR,aW h0];have va:=xP ha;have vb:=xP hb;obtain ⟨a1,a2⟩:=xK (val a);obtain ⟨b1,b2⟩:=xK (val b);have b2:=b2 h0;have la:bl (val a) <= 64*8:=Mm _ 8 (by rw [<-pM]; exact va);have lb:bl (val b) <= 64*8:=Mm _ 8 (by rw [<-pM]; exact vb);have lb1:1 <= bl (val b):=by
   unfold bl; rw [aW h0]; omega
  have ew:wi ((bl (val a):Int) - (bl (val b):Int))=(bl (val a):Int) - (bl (val b):Int):=bY (by omega) (by omega);rw [ew];have key:∀ m:Nat,(bl (val a):Int) - (bl (val b):Int)=(m:Int) - 1->EY prog zY 600 Tryz.f187 QL (Gd prog zY 600 Tryz.f187 QL) 600 (some (ZP b gG a ((m:Int) - 1)))=some (E3 (cQ 8 (val a / val b)) (cQ 8 (val a%val b)) 0):=by
   intro m hm;have:=aCI (b:=b) (A:=val a) (fu:=600) (K:=Gd prog zY 600 Tryz.f187 QL) hb m 600 0 (val a) (by omega) (by omega) (by omega) (Nat.dvd_zero _) ?_ va ?_
   ·rw [gN,nK ha] at this;exact this.trans (IP 600 _ _)
   ·refine cU a1 ?_;rw [show bl (val a)=bl (val b) - 1+m by omega,dM];exact pT _ b2
   ·rcases Ee m with h | h
    ·exact .inl h
    ·refine .inr ?_;have:val b*2 ^ (m - 1) < 2 ^ bl (val b)*2 ^ (m - 1):=Nat.mul_lt_mul_of_pos_right b1 (gS (by omega));rw [<-dM,show bl (val b)+(m - 1)=bl (val a) by omega] at this;refine cU this ?_;rw [pM];exact aCJ _ 8 la
  by_cases hlt:bl (val a) < bl (val b)
  ·have hab:val a < val b:=by
    refine cU a1 (cK (iK (by omega) (by omega)) b2)
   have hs:¬ (0:Int) <= (bl (val a):Int) - (bl (val b):Int):=by omega
   rw [jJ hab,aV hab,nK ha,gN];rw [show (600:Nat)=599+1 from rfl,mN,zZ,aH hs,aD];exact IP (599+1) _ _
  ·have:=key (bl (val a) - bl (val b)+1) (by omega);rw [show (((bl (val a) - bl (val b)+1:Nat):Int) - 1)=(bl (val a):Int) - (bl (val b):Int) by omega] at this;exact this
def aCK:FA Nat:=zX.run
def rOf:FA Int:=sOf.run
def aSl:FA Nat:=I4.run
def sLZ:Summ where
 T:=Nat
 run:=λ
  | [.c (.s (.pl (.int .u64 x)))]=>cond (hO x) (some (64 - bl x.toNat)) none
  | _=>none
 enc:=λ n=>.int .i64 (n:Int)
def rLZ:FA Nat:=sLZ.run
def IU:Summ where
 T:=Int × Int
 run:=λ
  | [.c (.s (.pl (.int .u64 h))),.c (.s (.pl (.int .u64 l))),.c (.s (.pl (.int .u64 y)))]=>cond (decide (y=10) && decide (0 <= h /\ h < 10) && hO l) (some ((h*18446744073709551616+l) / 10,(h*18446744073709551616+l)%10)) none
  | _=>none
 enc:=Zp
def Mn:FA (Int × Int):=IU.run
def TM:Summ where
 T:=Nat × Nat
 run:=KO λ a=>(val a / 10,val a%10)
 enc:=λ t=>.tup [.s (.pl (.agg (.ints .u64 (cQ 8 t.1)) 8)),.s (.pl (.int .u8 (t.2:Int)))]
def TN:FA (Nat × Nat):=TM.run
def ZR:Nat->Nat->List Int
 | 0,_=>[]
 | k+1,n=>(48+(n%10:Nat):Int) :: (if n / 10=0 then [] else ZR k (n / 10))
def aSm (n:Nat):Str:=(ZR 200 n).reverse.map b8
def Vx:Summ where
 T:=Str
 run:=KO λ a=>aSm (val a)
 enc:=λ t=>.str t
def oO (c:UInt8):Bool:=Nat.ble 48 c.toNat && Nat.ble c.toNat 57
def tS:Nat->Str->Nat
 | n,[]=>n
 | n,c :: r=>tS (n*10+(c.toNat - 48)) r
def wA (s:Str):Bool:=match s with
 | []=>false
 | [c]=>oO c
 | c :: r=>!(Nat.beq c.toNat 48) && (oO c && r.all oO)
def z6 (s:Str):Nat × Int:=cond (wA s) (cond (Nat.blt (tS 0 s) fK) (tS 0 s,0) (0,7)) (0,4)
def sV:Summ where
 T:=Nat × Int
 run:=λ
  | [.c (.s (.pl (.str s)))]=>cond (decide (s.length <= 1099511627776)) (some (z6 s)) none
  | _=>none
 enc:=λ t=>.tup [.s (.pl (.agg (.ints .u64 (cQ 8 t.1)) 8)),.s (.pl (.int .i64 t.2))]
def DN:FA (Nat × Int):=sV.run
def jQ:Summ where
 T:=Unit
 run:=λ
  | []=>some ()
  | _=>none
 enc:=λ _=>.bool true
def aCL:FA Unit:=jQ.run
end
end Go.Eng
