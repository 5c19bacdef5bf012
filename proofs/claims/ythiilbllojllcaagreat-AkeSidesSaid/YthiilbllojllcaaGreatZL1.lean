import Derived.KernelRfl
import Derived.Test.YthiilbllojllcaaGreatEngNums
namespace Go.Eng
open Go.IntKind (u64 i64 u8)
noncomputable section
set_option linter.all false
def val:List Int->Nat
 | []=>0
 | x :: r=>x.toNat+18446744073709551616*val r
def cM:Nat->Nat->List Int
 | 0,_=>[]
 | k+1,n=>((n%18446744073709551616:Nat):Int) :: cM k (n / 18446744073709551616)
def tU:List Int->Bool
 | []=>true
 | x :: r=>decide (0 <= x /\ x < 18446744073709551616) && tU r
def gK (a:List Int):Bool:=Nat.beq a.length 8 && tU a
def gD:Nat:=13407807929942597099574024998205846127479365820592393377723561443721764030073546976801874298166903427690031858186486050853753882811946569946433649006084096
theorem sG:gD=18446744073709551616 ^ 8:=by decide +kernel
theorem wP (k n:Nat):(cM k n).length=k:=by
 induction k generalizing n with
 | zero=>rfl
 | succ k ih=>simp [cM,ih]
theorem Sl (k n:Nat):tU (cM k n)=true:=by
 induction k generalizing n with
 | zero=>rfl
 | succ k ih=>
  simp only [cM,tU,ih,H9,bJ];omega
theorem cL (n:Nat):gK (cM 8 n)=true:=by simp [gK,wP,Sl]
theorem Sm (k n:Nat):val (cM k n)=n%18446744073709551616 ^ k:=by
 induction k generalizing n with
 | zero=>simp [cM,val,qK]
 | succ k ih=>
  simp only [cM,val,ih,bD];rw [bM,bV (_ ^ k),qJ]
theorem aDe:∀ a:List Int,tU a=true->cM a.length (val a)=a:=by
 intro a
 induction a with
 | nil=>intro _; rfl
 | cons x r ih=>
  intro h;simp only [tU,aW,bJ] at h;simp only [fY,cM,val];have e1:(x.toNat+18446744073709551616*val r)%18446744073709551616=x.toNat:=by omega
  have e2:(x.toNat+18446744073709551616*val r) / 18446744073709551616=val r:=by omega
  rw [e1,e2,ih h.2];congr 1; omega
theorem Ze:∀ a:List Int,tU a=true->val a < 18446744073709551616 ^ a.length:=by
 intro a
 induction a with
 | nil=>intro _; simp [val]
 | cons x r ih=>
  intro h;simp only [tU,aW,bJ] at h;have:=ih h.2;simp only [fY,val,bM];have h3:x.toNat < 18446744073709551616:=by omega
  have h4:(val r+1)*18446744073709551616 <= 18446744073709551616 ^ r.length*18446744073709551616:=sR _ this;omega
theorem lA {a:List Int} (h:gK a=true):a.length=8:=by
 simp only [gK,aW] at h; exact aT h.1
theorem wQ {a:List Int} (h:gK a=true):tU a=true:=by
 simp only [gK,aW] at h; exact h.2
theorem oA {a:List Int} (h:gK a=true):cM 8 (val a)=a:=by
 have:=aDe a (wQ h);rwa [lA h] at this
theorem Aj {a:List Int} (h:gK a=true):val a < gD:=by
 have:=Ze a (wQ h);rw [lA h] at this;rw [sG]; exact this
theorem mN (n:Nat):val (cM 8 n)=n%gD:=by rw [Sm,sG]
theorem KC (k n:Nat):cM k (n%18446744073709551616 ^ k)=cM k n:=by
 have:=aDe (cM k n) (Sl k n);rw [wP,Sm] at this; exact this
theorem WQ (n:Nat):cM 8 (n%gD)=cM 8 n:=by rw [sG]; exact KC 8 n
theorem zT {a:List Int} (h:gK a=true):∃ a0 a1 a2 a3 a4 a5 a6 a7,a=[a0,a1,a2,a3,a4,a5,a6,a7]:=by
 have:=lA h
 match a,this with
 | [a0,a1,a2,a3,a4,a5,a6,a7],_=>exact ⟨a0,a1,a2,a3,a4,a5,a6,a7,rfl⟩
def WR:List Int->List Int->Int->List Int × Int
 | a :: x,b :: y,c=>let r:=WR x y ((a+b+c) / 18446744073709551616); ((a+b+c)%18446744073709551616 :: r.1,r.2)
 | _,_,c=>([],c)
theorem aU9:∀ (x y:List Int) (c:Nat),tU x=true->tU y=true->x.length=y.length->c <= 1 ->
  WR x y c=(cM x.length (val x+val y+c),(((val x+val y+c) / 18446744073709551616 ^ x.length:Nat):Int)):=by
 intro x
 induction x with
 | nil=>intro y c _ _ hl _; cases y <;> simp_all [WR,cM,val]
 | cons a x ih=>
  intro y c hx hy hl hc;cases y with
  | nil=>simp at hl
  | cons b y=>
   simp only [tU,aW,bJ] at hx hy;simp only [fY,KJ] at hl;obtain ⟨A,rfl⟩:=bZ hx.1.1;obtain ⟨Bn,rfl⟩:=bZ hy.1.1;have e:((A:Int)+Bn+c) / 18446744073709551616=(((A+Bn+c) / 18446744073709551616:Nat):Int):=by omega
   have e2:((A:Int)+Bn+c)%18446744073709551616=(((A+Bn+c)%18446744073709551616:Nat):Int):=by omega
   simp only [WR,e,e2];rw [ih y _ hx.2 hy.2 hl (by omega)];simp only [val,bD,cM,fY];have f1:(A+18446744073709551616*val x+(Bn+18446744073709551616*val y)+c)%18446744073709551616=(A+Bn+c)%18446744073709551616:=by omega
   have f2:(A+18446744073709551616*val x+(Bn+18446744073709551616*val y)+c) / 18446744073709551616=val x+val y+(A+Bn+c) / 18446744073709551616:=by omega
   rw [f1,f2,bM,bV (_ ^ x.length),<-jE,f2]
def WS:List Int->List Int->Int->List Int × Int
 | a :: x,b :: y,c=>let r:=WS x y (cond (decide (a < b+c)) 1 0); ((a+18446744073709551616 - b - c)%18446744073709551616 :: r.1,r.2)
 | _,_,c=>([],c)
theorem aVa:∀ (x y:List Int) (c:Nat),tU x=true->tU y=true->x.length=y.length->c <= 1 ->
  WS x y c=(cM x.length (val x+18446744073709551616 ^ x.length - val y - c),cond (decide (val x < val y+c)) 1 0):=by
 intro x
 induction x with
 | nil=>
  intro y c _ _ hl hc;cases y with
  | nil=>
   have:c=0 ∨ c=1:=by omega
   rcases this with rfl | rfl <;> simp [WS,cM,val]
  | cons _ _=>simp at hl
 | cons a x ih=>
  intro y c hx hy hl hc;cases y with
  | nil=>simp at hl
  | cons b y=>
   have hvy:=Ze y (by simp only [tU,aW] at hy; exact hy.2);simp only [tU,aW,bJ] at hx hy;simp only [fY,KJ] at hl;rw [<-hl] at hvy;obtain ⟨A,rfl⟩:=bZ hx.1.1;obtain ⟨Bn,rfl⟩:=bZ hy.1.1;have ih1:=ih y (cond (decide ((A:Int) < Bn+c)) 1 0) hx.2 hy.2 hl (by cases decide ((A:Int) < Bn+c) <;> simp);have ec:(((cond (decide ((A:Int) < Bn+c)) 1 0:Nat)):Int)=cond (decide ((A:Int) < Bn+c)) 1 0:=by cases decide ((A:Int) < Bn+c) <;> rfl
   rw [ec] at ih1;simp only [WS,ih1];clear ih ih1;simp only [val,bD,cM,fY,bM];generalize 18446744073709551616 ^ x.length=p at *;by_cases hd:(A:Int) < Bn+c
   ·have hd':A < Bn+c:=by omega
    simp only [hd,qP,aB];have g1:(A+18446744073709551616*val x+p*18446744073709551616 - (Bn+18446744073709551616*val y) - c) / 18446744073709551616=val x+p - val y - 1:=by omega
    have g2:((A:Int)+18446744073709551616 - Bn - c)%18446744073709551616=(((A+18446744073709551616*val x+p*18446744073709551616 - (Bn+18446744073709551616*val y) - c)%18446744073709551616:Nat):Int):=by omega
    rw [g1,g2];congr 2;exact mA.2 (by omega)
   ·have hd':¬ A < Bn+c:=by omega
    simp only [hd,qO,aE];have g1:(A+18446744073709551616*val x+p*18446744073709551616 - (Bn+18446744073709551616*val y) - c) / 18446744073709551616=val x+p - val y:=by omega
    have g2:((A:Int)+18446744073709551616 - Bn - c)%18446744073709551616=(((A+18446744073709551616*val x+p*18446744073709551616 - (Bn+18446744073709551616*val y) - c)%18446744073709551616:Nat):Int):=by omega
    rw [g1,g2];congr 2;exact mA.2 (by omega)
theorem Zf {n:Int} (h0:0 <= n) (h1:n < 18446744073709551616):u64.wrap n=n:=by
 simp [IntKind.wrap,IntKind.bits,IntKind.signed]; omega
theorem gP (n:Nat):u64.wrap (n:Int)=((n%18446744073709551616:Nat):Int):=by
 simp [IntKind.wrap,IntKind.bits,IntKind.signed]
theorem qD (n:Nat):u8.wrap (n:Int)=((n%256:Nat):Int):=by
 simp [IntKind.wrap,IntKind.bits,IntKind.signed]
theorem bW {n:Int} (h0:-9223372036854775808 <= n) (h1:n < 9223372036854775808):i64.wrap n=n:=by
 have e:(2:Int) ^ 64=18446744073709551616:=by decide
 have e2:(2:Int) ^ 63=9223372036854775808:=by decide
 simp only [IntKind.wrap,IntKind.bits,IntKind.signed];simp;omega
theorem pF (x n:Nat) (h:n < 64):eJ .u64 (x:Int) (n:Int)=((x / 2 ^ n:Nat):Int):=by
 unfold eJ;have:min ((n:Int).toNat) (IntKind.bits .u64)=n:=by
  simp [IntKind.bits]; omega
 rw [this,Int.fdiv_eq_ediv_of_nonneg _ (by exact_mod_cast oI _)]
 push_cast
 rfl
theorem Gw (x n:Nat) (h:n < 64):mE .u64 (x:Int) (n:Int)=((x*2 ^ n%18446744073709551616:Nat):Int):=by
 unfold mE;have:min ((n:Int).toNat) (IntKind.bits .u64)=n:=by
  simp [IntKind.bits]; omega
 rw [this,show ((x:Int)*2 ^ n)=((x*2 ^ n:Nat):Int) by push_cast; rfl,gP]
theorem aF4 (x:Nat) (h:x < 18446744073709551616):(BitVec.ofInt 64 (x:Int)).toNat=x:=by
 simp;omega
theorem Gx (x y:Nat) (hx:x < 18446744073709551616) (hy:y < 18446744073709551616):fH .u64 (x:Int) (y:Int)=((x &&& y:Nat):Int):=by
 unfold fH;have e:(BitVec.ofInt (IntKind.bits .u64) (x:Int) &&& BitVec.ofInt (IntKind.bits .u64) (y:Int)).toNat=x &&& y:=by
  show (BitVec.ofInt 64 (x:Int) &&& BitVec.ofInt 64 (y:Int)).toNat=x &&& y;rw [BitVec.toNat_and,aF4 x hx,aF4 y hy]
 rw [e,gP,aY];exact jS Nat.and_le_left hx
theorem Sn (x y:Nat) (hx:x < 18446744073709551616) (hy:y < 18446744073709551616):Fv .u64 (x:Int) (y:Int)=((x ||| y:Nat):Int):=by
 unfold Fv;have e:(BitVec.ofInt (IntKind.bits .u64) (x:Int) ||| BitVec.ofInt (IntKind.bits .u64) (y:Int)).toNat=x ||| y:=by
  show (BitVec.ofInt 64 (x:Int) ||| BitVec.ofInt 64 (y:Int)).toNat=x ||| y;rw [BitVec.toNat_or,aF4 x hx,aF4 y hy]
 rw [e,gP,aY];exact KN (n:=64) hx hy
theorem aVb (x:Nat) (hx:x < 18446744073709551616):fH .u64 (x:Int) 1=((x%2:Nat):Int):=by
 rw [show (1:Int)=((1:Nat):Int) from rfl,Gx x 1 hx (by omega),Nat.and_one_is_mod]
theorem aDf (x:Nat) (hx:x < 18446744073709551616):fH .u64 (x:Int) 4294967295=((x%4294967296:Nat):Int):=by
 rw [show (4294967295:Int)=((4294967295:Nat):Int) from rfl,Gx x _ hx (by omega)];rw [show (4294967295:Nat)=2 ^ 32 - 1 from rfl,TE]
theorem aNs (x r:Nat) (hx:x < 2 ^ r):x ||| 2 ^ r=x+2 ^ r:=by
 have:=Au hx 1;rw [gY] at this;rw [Nat.or_comm,<-this,KI]
theorem zU:∀ (k q n:Nat),q < k->(cM k n).getD q 0=((n / 18446744073709551616 ^ q%18446744073709551616:Nat):Int):=by
 intro k
 induction k with
 | zero=>intro q n h; omega
 | succ k ih=>
  intro q n h;cases q with
  | zero=>simp [cM]
  | succ q=>
   simp only [cM,Ey];rw [ih q _ (by omega),bM,bV (_ ^ q),jE]
theorem aVc:∀ (k q n m:Nat),q < k->n / 18446744073709551616 ^ q+m < 18446744073709551616 ->
  (cM k n).set q (((n / 18446744073709551616 ^ q+m:Nat)):Int)=cM k (n+18446744073709551616 ^ q*m):=by
 intro k
 induction k with
 | zero=>intro q n m h; omega
 | succ k ih=>
  intro q n m h hm;cases q with
  | zero=>
   simp only [iY,yA,mZ] at hm ⊢;simp only [cM,u5];rw [aY hm,lG hm,lG (by omega:n < 18446744073709551616)]
  | succ q=>
   simp only [cM,KG];have e1:n / 18446744073709551616 ^ (q+1)=n / 18446744073709551616 / 18446744073709551616 ^ q:=by
    rw [bM,bV (_ ^ q),jE]
   rw [e1] at hm ⊢;rw [ih q (n / 18446744073709551616) m (by omega) hm];have e2:n+18446744073709551616 ^ (q+1)*m=n+18446744073709551616*(18446744073709551616 ^ q*m):=by
    rw [bM,bV (_ ^ q),dU]
   rw [e2];congr 1
   ·congr 1; omega
   ·congr 1; omega
theorem D9 (q:Nat):18446744073709551616 ^ q=2 ^ (64*q):=by rw [lJ]
theorem aVd (n q r:Nat) (hr:r < 64):n / 18446744073709551616 ^ q%18446744073709551616 / 2 ^ r%2=n / 2 ^ (64*q+r)%2:=by
 rw [D9,dV,<-jE];generalize n / 2 ^ (64*q)=x;have e:18446744073709551616=2 ^ r*(2*2 ^ (63 - r)):=by
  rw [<-Nat.pow_succ',<-dV,show r+(63 - r).succ=64 by omega]
 rw [e,KM,TF]
open Go Go.Proofs
def W8 (l:List Int):AV:=.s (.pl (.agg (.ints .u64 l) 8))
def WT:Nat:=1000000
abbrev aF5 (t:Int × Int):AV:=.tup [.s (.pl (.int .u64 t.1)),.s (.pl (.int .u64 t.2))]
def xX (x y c:Int):Bool:=decide (0 <= x) && decide (0 <= y) && decide (0 <= c) && decide (c <= 1) && decide (x < 18446744073709551616) && decide (y < 18446744073709551616)
def lT:Summ where
 T:=Int × Int
 run:=λ
  | [.c (.s (.pl (.int .u64 x))),.c (.s (.pl (.int .u64 y))),.c (.s (.pl (.int .u64 c)))]=>cond (xX x y c) (some ((x+y+c)%18446744073709551616,(x+y+c) / 18446744073709551616)) none
  | _=>none
 enc:=aF5
def El:Summ where
 T:=Int × Int
 run:=λ
  | [.c (.s (.pl (.int .u64 x))),.c (.s (.pl (.int .u64 y))),.c (.s (.pl (.int .u64 c)))]=>cond (xX x y c) (some ((x+18446744073709551616 - y - c)%18446744073709551616,cond (decide (x < y+c)) 1 0)) none
  | _=>none
 enc:=aF5
theorem aDg {w:World} {ρ:Plc} (a b:Int):AVR w ρ (aF5 (a,b)) (.tuple #[.int .u64 a,.int .u64 b]):=by
 refine ⟨_,rfl,rfl,λ i x v hx hv=>?_⟩
 match i with
 | 0=>simp at hx hv; subst hx; subst hv; exact ⟨rfl,λ _ _ e=>by cases e⟩
 | 1=>simp at hx hv; subst hx; subst hv; exact ⟨rfl,λ _ _ e=>by cases e⟩
 | i+2=>simp at hx
theorem PQ {w:World} {ρ:Plc} {k:IntKind} {x y c:Int} {vs:List Value} (h:AVRs w ρ [.int k x,.int k y,.int k c] vs):vs=[.int k x,.int k y,.int k c]:=by
 match vs,h with
 | [u,v,z],⟨h1,h2,h3,_⟩=>rw [h1.ofInt,h2.ofInt,h3.ofInt]
 | [],h=>simp [AVRs] at h
 | [_],h=>simp [AVRs] at h
 | [_,_],h=>simp [AVRs] at h
 | _ :: _ :: _ :: _ :: _,h=>simp [AVRs] at h
theorem Mr:CallOk prog 115 lT:=by
 refine CallOk.extern (e:=add64Entry) Tryz.func115 (by kernel_rfl) (by kernel_rfl) (by kernel_rfl) (by kernel_rfl) ?_;intro args t ht;simp only [lT] at ht;split at ht
 ·rename_i x y c;obtain ⟨h1,h2⟩:=bA ht;simp only [xX,aW,bJ] at h1;cases h2;refine ⟨rfl,λ w X vs hargs=>?_⟩;rw [PQ hargs];exact ⟨_,run_add64 x y c (by omega) (by omega) (by omega) (by omega) w,aDg _ _⟩
 ·simp at ht
def bHZ:Array Value->Sem Value:=(Extern.MathBitsCarry.rows[1]'(by decide)).2
theorem aNt {P:Program} (x y b:Nat) (hb:b <= 1) (w:World):(bHZ #[.int .u64 x,.int .u64 y,.int .u64 b]).run P w =
  .ok (.tuple #[.int .u64 (((x+18446744073709551616 - y - b)%18446744073709551616:Nat):Int),.int .u64 ((if x < y+b then 1 else 0:Nat):Int)]) w:=by
 have:b=0 ∨ b=1:=by omega
 rcases this with rfl | rfl <;> rfl
theorem aNu:CallOk prog 129 El:=by
 refine CallOk.extern (e:=bHZ) Tryz.func129 (by kernel_rfl) (by kernel_rfl) (by kernel_rfl) (by kernel_rfl) ?_;intro args t ht;simp only [El] at ht;split at ht
 ·rename_i x y c;obtain ⟨h1,h2⟩:=bA ht;simp only [xX,aW,bJ] at h1;cases h2;refine ⟨rfl,λ w X vs hargs=>?_⟩;rw [PQ hargs];obtain ⟨x,rfl⟩:=bZ h1.1.1.1.1.1;obtain ⟨y,rfl⟩:=bZ h1.1.1.1.1.2;obtain ⟨c,rfl⟩:=bZ h1.1.1.1.2;refine ⟨_,aNt x y c (by omega) w,?_⟩;have e1:((((x+18446744073709551616 - y - c)%18446744073709551616:Nat)):Int)=((x:Int)+18446744073709551616 - y - c)%18446744073709551616:=by omega
  have e2:(((if x < y+c then 1 else 0:Nat)):Int)=cond (decide ((x:Int) < y+c)) 1 0:=by
   by_cases h:x < y+c
   ·have:(x:Int) < y+c:=by omega
    simp [h,this]
   ·have:¬ (x:Int) < y+c:=by omega
    simp [h,this]
  rw [e1,e2];exact aDg _ _
 ·simp at ht
def Gy {β:Type} (A:FA (Int × Int)):List Int->List Int->Int->List Int->(List Int->Int->Option β)->Option β
 | a :: xs,b :: ys,c,acc,K=>(A [.int .u64 a,.int .u64 b,.int .u64 c]).bind λ t=>Gy A xs ys t.2 (acc++[t.1]) K
 | _,_,c,acc,K=>K acc c
def So:Cg:=⟨⟨cV [(115,lT),(129,El)],[],cX⟩,[(5,[2,3,4,6,7,8,9,10,11],[6,7,8,9])]⟩
theorem Γ_both:∀ f A,So.c.Γ f=some A->CallOk prog f A:=aA Mr (aA aNu aH)
theorem WU (a0 a1 a2 a3 a4 a5 a6 a7 b0 b1 b2 b3 b4 b5 b6 b7:Int):aS prog Tryz.f128 So WT [W8 [a0,a1,a2,a3,a4,a5,a6,a7],W8 [b0,b1,b2,b3,b4,b5,b6,b7],.s (.clo 115 [] [])]
 =Gy lT.run [a0,a1,a2,a3,a4,a5,a6,a7] [b0,b1,b2,b3,b4,b5,b6,b7] 0 [] (λ l c=>some (.tup [.s (.pl (.agg (.ints .u64 l) 8)),.s (.pl (.bool (decide (c=0))))])):=by kernel_rfl
theorem WV (a0 a1 a2 a3 a4 a5 a6 a7 b0 b1 b2 b3 b4 b5 b6 b7:Int):aS prog Tryz.f128 So WT [W8 [a0,a1,a2,a3,a4,a5,a6,a7],W8 [b0,b1,b2,b3,b4,b5,b6,b7],.s (.clo 129 [] [])]
 =Gy El.run [a0,a1,a2,a3,a4,a5,a6,a7] [b0,b1,b2,b3,b4,b5,b6,b7] 0 [] (λ l c=>some (.tup [.s (.pl (.agg (.ints .u64 l) 8)),.s (.pl (.bool (decide (c=0))))])):=by kernel_rfl
theorem aF6 {β:Type} {K:List Int->Int->Option β}:∀ (x y:List Int) (c:Int) (acc:List Int),tU x=true->tU y=true->x.length=y.length->0 <= c->c <= 1 ->
  Gy lT.run x y c acc K=K (acc++(WR x y c).1) (WR x y c).2:=by
 intro x
 induction x with
 | nil=>intro y c acc hx hy hl h0 h1; cases y <;> simp_all [Gy,WR]
 | cons a x ih=>
  intro y c acc hx hy hl h0 h1;cases y with
  | nil=>simp at hl
  | cons b y=>
   simp only [tU,aW,bJ] at hx hy;simp only [fY,KJ] at hl;have e:lT.run [.int .u64 a,.int .u64 b,.int .u64 c]=some ((a+b+c)%18446744073709551616,(a+b+c) / 18446744073709551616):=by
    simp [lT,xX,hx.1.1,hx.1.2,hy.1.1,hy.1.2,h0,h1]
   simp only [Gy,e,aC];rw [ih y _ _ hx.2 hy.2 hl (by omega) (by omega)];simp [WR]
theorem aF7 {β:Type} {K:List Int->Int->Option β}:∀ (x y:List Int) (c:Int) (acc:List Int),tU x=true->tU y=true->x.length=y.length->0 <= c->c <= 1 ->
  Gy El.run x y c acc K=K (acc++(WS x y c).1) (WS x y c).2:=by
 intro x
 induction x with
 | nil=>intro y c acc hx hy hl h0 h1; cases y <;> simp_all [Gy,WS]
 | cons a x ih=>
  intro y c acc hx hy hl h0 h1;cases y with
  | nil=>simp at hl
  | cons b y=>
   simp only [tU,aW,bJ] at hx hy;simp only [fY,KJ] at hl;have e:El.run [.int .u64 a,.int .u64 b,.int .u64 c]=some ((a+18446744073709551616 - b - c)%18446744073709551616,cond (decide (a < b+c)) 1 0):=by
    simp [El,xX,hx.1.1,hx.1.2,hy.1.1,hy.1.2,h0,h1]
   simp only [Gy,e,aC];rw [ih y _ _ hx.2 hy.2 hl (by cases decide (a < b+c) <;> simp) (by cases decide (a < b+c) <;> simp)];simp [WS]
abbrev Ms (t:Nat × Bool):AV:=.tup [.s (.pl (.agg (.ints .u64 (cM 8 t.1)) 8)),.s (.pl (.bool t.2))]
def Zg (a b:List Int):Nat × Bool:=(val a+val b,decide (val a+val b < gD))
def Zh (a b:List Int):Nat × Bool:=(val a+gD - val b,decide (val b <= val a))
theorem aVe (A B:Nat):(some (AV.tup [.s (.pl (.agg (.ints .u64 (cM 8 (A+B))) 8)),.s (.pl (.bool (decide ((((A+B) / gD:Nat):Int)=((0:Nat):Int)))))]):Option AV)=some (Ms (A+B,decide (A+B < gD))):=by
 have:decide ((((A+B) / gD:Nat):Int)=((0:Nat):Int))=decide (A+B < gD):=by
  refine mA.2 ?_;rw [Int.natCast_inj,Nat.div_eq_zero_iff];have:gD ≠ 0:=by decide +kernel
  omega
 rw [this]
def Mt:Summ where
 T:=Nat × Bool
 run:=λ
  | [.c (.s (.pl (.agg (.ints .u64 a) 8))),.c (.s (.pl (.agg (.ints .u64 b) 8))),.c (.s (.clo f [] []))]=>cond (gK a && gK b) (cond (Nat.beq f 115) (some (Zg a b)) (cond (Nat.beq f 129) (some (Zh a b)) none)) none
  | _=>none
 enc:=Ms
theorem aVf:CallOk prog 128 Mt:=by
 refine lL (g:=So) (fu:=λ _=>WT) kD Γ_both Tryz.func128 (by kernel_rfl) ?_;intro args t ht;simp only [Mt] at ht;split at ht
 ·rename_i a b f;obtain ⟨h1,h2⟩:=bA ht;simp only [aW] at h1;have ha:=wQ h1.1;have hb:=wQ h1.2;have la:=lA h1.1;have lb:=lA h1.2;have va:=Aj h1.1;have vb:=Aj h1.2;cases hf:Nat.beq f 115
  ·rw [hf] at h2;simp only [aE] at h2;obtain ⟨h3,h4⟩:=bA h2;have:f=129:=aT h3;subst this;cases h4;have key:=aF7 (K:=λ l c=>some (AV.tup [.s (.pl (.agg (.ints .u64 l) 8)),.s (.pl (.bool (decide (c=0))))])) a b 0 [] ha hb (by omega) (by omega) (by omega);rw [show ((0:Int))=((0:Nat):Int) from rfl,aVa a b 0 ha hb (by omega) (by omega),la] at key;obtain ⟨a0,a1,a2,a3,a4,a5,a6,a7,rfl⟩:=zT h1.1;obtain ⟨b0,b1,b2,b3,b4,b5,b6,b7,rfl⟩:=zT h1.2;refine (WV a0 a1 a2 a3 a4 a5 a6 a7 b0 b1 b2 b3 b4 b5 b6 b7).trans (key.trans ?_);simp only [lF,KP,fP,<-sG,Zh];by_cases hc:val [a0,a1,a2,a3,a4,a5,a6,a7] < val [b0,b1,b2,b3,b4,b5,b6,b7]
   ·have hc':¬ val [b0,b1,b2,b3,b4,b5,b6,b7] <= val [a0,a1,a2,a3,a4,a5,a6,a7]:=by omega
    simp [hc,hc']; rfl
   ·have hc':val [b0,b1,b2,b3,b4,b5,b6,b7] <= val [a0,a1,a2,a3,a4,a5,a6,a7]:=by omega
    simp [hc,hc']; rfl
  ·rw [hf] at h2;have:f=115:=aT hf;subst this;cases h2;have key:=aF6 (K:=λ l c=>some (AV.tup [.s (.pl (.agg (.ints .u64 l) 8)),.s (.pl (.bool (decide (c=0))))])) a b 0 [] ha hb (by omega) (by omega) (by omega);rw [show ((0:Int))=((0:Nat):Int) from rfl,aU9 a b 0 ha hb (by omega) (by omega),la] at key;obtain ⟨a0,a1,a2,a3,a4,a5,a6,a7,rfl⟩:=zT h1.1;obtain ⟨b0,b1,b2,b3,b4,b5,b6,b7,rfl⟩:=zT h1.2;refine (WU a0 a1 a2 a3 a4 a5 a6 a7 b0 b1 b2 b3 b4 b5 b6 b7).trans (key.trans ?_);simp only [lF,fP,<-sG,Zg];exact aVe _ _
 ·simp at ht
def CT:Cg:=⟨⟨cV [(128,Mt)],[],cX⟩,[]⟩
theorem Γ_addsub:∀ f A,CT.c.Γ f=some A->CallOk prog f A:=aA aVf aH
def Sp {T:Type} (F:List Int->List Int->T):FA T
 | [.c (.s (.pl (.agg (.ints .u64 a) 8))),.c (.s (.pl (.agg (.ints .u64 b) 8)))]=>cond (gK a && gK b) (some (F a b)) none
 | _=>none
theorem DF {T:Type} {F:List Int->List Int->T} {args:List AV} {t:T} (h:Sp F args=some t):∃ a b,args=[W8 a,W8 b] /\ gK a=true /\ gK b=true /\ t=F a b:=by
 unfold Sp at h;split at h
 ·rename_i a b;obtain ⟨h1,h2⟩:=bA h;simp only [aW] at h1;cases h2;exact ⟨a,b,rfl,h1.1,h1.2,rfl⟩
 ·cases h
def bH0:Summ:={ T:=Nat × Bool,run:=Sp Zg,enc:=Ms }
def bFN:Summ:={ T:=Nat × Bool,run:=Sp Zh,enc:=Ms }
theorem bFO (a b:List Int):aS prog Tryz.f83 CT WT [W8 a,W8 b]=(Mt.run [W8 a,W8 b,.s (.clo 115 [] [])]).bind λ t=>some (Ms t):=by kernel_rfl
theorem bFP (a b:List Int):aS prog Tryz.f86 CT WT [W8 a,W8 b]=(Mt.run [W8 a,W8 b,.s (.clo 129 [] [])]).bind λ t=>some (Ms t):=by kernel_rfl
theorem Sq {a b:List Int} (ha:gK a=true) (hb:gK b=true):Mt.run [W8 a,W8 b,.s (.clo 115 [] [])]=some (Zg a b):=by
 show cond (gK a && gK b) _ none=_;rw [ha,hb]; rfl
theorem Sr {a b:List Int} (ha:gK a=true) (hb:gK b=true):Mt.run [W8 a,W8 b,.s (.clo 129 [] [])]=some (Zh a b):=by
 show cond (gK a && gK b) _ none=_;rw [ha,hb]; rfl
theorem Zi:CallOk prog 83 bH0:=by
 refine lL (g:=CT) (fu:=λ _=>WT) kD Γ_addsub Tryz.func83 (by kernel_rfl) ?_;intro args t ht;obtain ⟨a,b,rfl,ha,hb,rfl⟩:=DF ht;rw [bFO,Sq ha hb]; rfl
theorem Ss:CallOk prog 86 bFN:=by
 refine lL (g:=CT) (fu:=λ _=>WT) kD Γ_addsub Tryz.func86 (by kernel_rfl) ?_;intro args t ht;obtain ⟨a,b,rfl,ha,hb,rfl⟩:=DF ht;rw [bFP,Sr ha hb]; rfl
def EA:Cg:=⟨⟨cV [],[],cX⟩,[(3,[2,3,4,5],[4])]⟩
def aNv:List Int->List Int->Option AV
 | a :: x,b :: y=>cond (decide (a < b)) (some (.int .i64 (-1))) (cond (decide (b < a)) (some (.int .i64 1)) (aNv x y))
 | _,_=>some (.int .i64 0)
theorem bFQ (a0 a1 a2 a3 a4 a5 a6 a7 b0 b1 b2 b3 b4 b5 b6 b7:Int):aS prog Tryz.f85 EA WT [W8 [a0,a1,a2,a3,a4,a5,a6,a7],W8 [b0,b1,b2,b3,b4,b5,b6,b7]]=aNv [a7,a6,a5,a4,a3,a2,a1,a0] [b7,b6,b5,b4,b3,b2,b1,b0]:=by kernel_rfl
theorem bH1 (n:Int):aS prog Tryz.f109 EA WT [.int .u64 n]=some (W8 [n,0,0,0,0,0,0,0]):=by kernel_rfl
def tV (x y:Nat):Int:=cond (decide (x < y)) (-1) (cond (decide (y < x)) 1 0)
def iM:List Int->Nat->Nat
 | [],s=>s
 | x :: r,s=>iM r (x.toNat+18446744073709551616*s)
theorem aVg:∀ (x y:List Int),tU x=true->tU y=true->x.length=y.length->∀ s,aNv x y=some (.int .i64 (tV (iM x s) (iM y s))):=by
 have key:∀ (x y:List Int),tU x=true->tU y=true->x.length=y.length->∀ s t,s < t->iM x s < iM y t:=by
  intro x
  induction x with
  | nil=>intro y _ _ hl s t h; cases y with
   | nil=>simpa [iM] using h
   | cons _ _=>simp at hl
  | cons a x ih=>
   intro y hx hy hl s t h;cases y with
   | nil=>simp at hl
   | cons b y=>
    simp only [tU,aW,bJ] at hx hy;simp only [iM];exact ih y hx.2 hy.2 (by simpa using hl) _ _ (by omega)
 intro x
 induction x with
 | nil=>intro y _ _ hl s; cases y with
  | nil=>simp [aNv,iM,tV]
  | cons _ _=>simp at hl
 | cons a x ih=>
  intro y hx hy hl s;cases y with
  | nil=>simp at hl
  | cons b y=>
   simp only [tU,aW,bJ] at hx hy;simp only [aNv,iM];have hl':x.length=y.length:=by simpa using hl
   by_cases h1:a < b
   ·have:=key x y hx.2 hy.2 hl' (a.toNat+18446744073709551616*s) (b.toNat+18446744073709551616*s) (by omega);simp [h1,tV,this]
   ·by_cases h2:b < a
    ·have:=key y x hy.2 hx.2 hl'.symm (b.toNat+18446744073709551616*s) (a.toNat+18446744073709551616*s) (by omega);have h3:¬ iM x (a.toNat+18446744073709551616*s) < iM y (b.toNat+18446744073709551616*s):=by omega
     simp [h1,h2,tV,this,h3]
    ·have:a=b:=by omega
     subst this;simp only [h1,qO,aE];exact ih y hx.2 hy.2 hl' _
theorem Mu (a0 a1 a2 a3 a4 a5 a6 a7:Int):iM [a7,a6,a5,a4,a3,a2,a1,a0] 0=val [a0,a1,a2,a3,a4,a5,a6,a7]:=by
 simp [iM,val]
theorem Su {a0 a1 a2 a3 a4 a5 a6 a7:Int} (h:tU [a0,a1,a2,a3,a4,a5,a6,a7]=true):tU [a7,a6,a5,a4,a3,a2,a1,a0]=true:=by
 simp only [tU,aW,bJ,H9] at h ⊢;simp [h]
def bFR:Summ:={ T:=Int,run:=Sp λ a b=>tV (val a) (val b),enc:=λ t=>.int .i64 t }
theorem aNw:CallOk prog 85 bFR:=by
 refine lL (g:=EA) (fu:=λ _=>WT) kD aH Tryz.func85 (by kernel_rfl) ?_;intro args t ht;obtain ⟨a,b,rfl,ha,hb,rfl⟩:=DF ht;have ha':=wQ ha;have hb':=wQ hb;obtain ⟨a0,a1,a2,a3,a4,a5,a6,a7,rfl⟩:=zT ha;obtain ⟨b0,b1,b2,b3,b4,b5,b6,b7,rfl⟩:=zT hb;rw [bFQ,aVg _ _ (Su ha') (Su hb') rfl 0,Mu,Mu];rfl
def sOf:Summ where
 T:=Int
 run:=λ
  | [.c (.s (.pl (.int .u64 n)))]=>some n
  | _=>none
 enc:=λ n=>W8 [n,0,0,0,0,0,0,0]
theorem WW:CallOk prog 109 sOf:=by
 refine lL (g:=EA) (fu:=λ _=>WT) kD aH Tryz.func109 (by kernel_rfl) ?_;intro args t ht;simp only [sOf] at ht;split at ht
 ·cases ht;exact bH1 _
 ·cases ht
abbrev inB (i:Int):Bool:=decide (0 <= i64.wrap (i.tdiv 64) /\ i64.wrap (i.tdiv 64) < ((8:Nat):Int))
abbrev Mv (i:Int):Nat:=0+(i64.wrap (i.tdiv 64)).toNat
theorem bFT (a:List Int) (i:Int):aS prog Tryz.f84 EA WT [W8 a,.int .i64 i] =
  cond (decide (i < 0) || decide (512 <= i)) (some (.int .u64 0)) (cond (inB i) (cond (decide (i.tmod 64 < 0)) none (some (.int .u64 (fH .u64 (eJ .u64 (a.getD (Mv i) 0) (i.tmod 64)) 1)))) none):=by kernel_rfl
def nM (n:Nat) (i:Int):Nat:=cond (decide (i < 0)) 0 (n / 2 ^ i.toNat%2)
def Nq:Summ where
 T:=Nat
 run:=λ
  | [.c (.s (.pl (.agg (.ints .u64 a) 8))),.c (.s (.pl (.int .i64 i)))]=>cond (gK a) (some (nM (val a) i)) none
  | _=>none
 enc:=λ n=>.int .u64 n
theorem WX (j:Nat) (h:j < 512):inB j=true /\ Mv j=j / 64 /\ (j:Int).tmod 64=((j%64:Nat):Int):=by
 have e1:(j:Int).tdiv 64=((j / 64:Nat):Int):=by rw [qH (by omega)]; rfl
 have e2:(j:Int).tmod 64=((j%64:Nat):Int):=by rw [mQ (by omega)]; rfl
 have e3:i64.wrap ((j:Int).tdiv 64)=((j / 64:Nat):Int):=by rw [e1,bW (by omega) (by omega)]
 refine ⟨?_,?_,e2⟩
 ·simp only [inB,e3,bJ]; omega
 ·simp only [Mv,e3]; omega
theorem Zj (q j:Nat) (h:64*q <= j):18446744073709551616 ^ q <= 2 ^ j:=by
 rw [D9]; exact kM (by omega) h
theorem Sv:CallOk prog 84 Nq:=by
 refine lL (g:=EA) (fu:=λ _=>WT) kD aH Tryz.func84 (by kernel_rfl) ?_;intro args t ht;simp only [Nq] at ht;split at ht
 ·rename_i a i;obtain ⟨ha,h2⟩:=bA ht;cases h2;refine (bFT a i).trans ?_;by_cases h0:i < 0
  ·simp [h0,nM,Nq]
  ·obtain ⟨j,rfl⟩:=bZ (by omega:0 <= i);by_cases h1:512 <= (j:Int)
   ·have hz:val a / 2 ^ j=0:=by
     refine lG (dD (Aj ha) ?_);rw [sG];exact Zj 8 j (by omega)
    simp [h1,nM,Nq,hz]
   ·obtain ⟨g1,g2,g3⟩:=WX j (by omega);have hneg:¬ (((j%64:Nat):Int) < 0):=by omega
    have eb:fH .u64 (eJ .u64 (a.getD (j / 64) 0) ((j%64:Nat):Int)) 1=((val a / 2 ^ j%2:Nat):Int):=by
     rw [<-oA ha,zU 8 (j / 64) _ (by omega),pF _ _ (bH _ (by omega)),aVb,aVd _ _ _ (bH _ (by omega)),oA ha]
     ·rw [show 64*(j / 64)+j%64=j by omega]
     ·exact jS (sO _ _) (bH _ (by omega))
    simp only [g1,g2,g3,h0,h1,hneg,qO,Bool.or_self,aE,aB,eb];show some (AV.int .u64 _)=some (AV.int .u64 ((nM (val a) j:Nat):Int));simp only [nM,h0,qO,aE,bD]
 ·cases ht
def tW:TypeId:=Tryz.f109.resultTypes.getD 0 0
def sI:Cg:=⟨⟨cV [(84,Nq)],[],cX⟩,[(6,[1,2,4,5,14],[4,5])]⟩
theorem Γ_shift:∀ f A,sI.c.Γ f=some A->CallOk prog f A:=aA Sv aH
abbrev Em:List Nat:=[1,1,1,0,1,2]
abbrev iT:List Int:=[0,0,0,0,0,0,0,0]
def aNx (a o:List Int) (sh i:Int):St :=
 {tm:=[(1,.int .i64 sh),(2,.s (.ptr 0 0 8)),(4,.s (.ptr 1 0 8)),(5,.s (.ptr 2 0 8)),(14,.int .i64 i)],
  hp:=[(0,⟨tW,8,.t (.ints .u64 a)⟩),(1,⟨tW,8,.t (.ints .u64 iT)⟩),(2,⟨tW,8,.t (.ints .u64 o)⟩)],nx:=3,sz:=34 }
def bFU (o:List Int):St :=
 {tm:=[(4,.s (.ptr 0 0 8)),(5,.s (.ptr 1 0 8))],hp:=[(0,⟨tW,8,.t (.ints .u64 iT)⟩),(1,⟨tW,8,.t (.ints .u64 o)⟩)],nx:=2,sz:=34 }
theorem aNy (fu:Nat) (a:List Int) (sh:Int):aS prog Tryz.f126 sI fu [W8 a,.int .i64 sh] =
  cond (decide (512 <= sh) || decide (sh <= -512)) (some (W8 iT)) (Fr prog sI fu Tryz.f126 Em (Ib prog sI fu Tryz.f126 Em) fu (some (aNx a iT sh 0))):=by kernel_rfl
theorem Gz (fu:Nat) (o:List Int):Ib prog sI fu Tryz.f126 Em (.exit 0) (bFU o)=some (W8 o):=by kernel_rfl
theorem EB (fu:Nat) (a o:List Int) (sh i:Int) (G:Option St->Option AV) (H:Ex->Option St->Option AV):aBq prog sI fu Tryz.f126 Em G H (aNx a o sh i) =
  cond (decide (i < 512)) ((Nq.run [W8 a,.int .i64 (i64.wrap (i - sh))]).bind λ t:Nat=>
   cond (decide ((t:Int)=1)) (cond (inB i) (cond (decide (i.tmod 64 < 0)) none (cond (inB i)
    (G (some (aNx a (o.set (Mv i) (Fv .u64 (o.getD (Mv i) 0) (mE .u64 1 (i.tmod 64)))) sh (i64.wrap (i+1))))) none)) none)
    (G (some (aNx a o sh (i64.wrap (i+1)))))) (H (.exit 0) (some (bFU o))):=by kernel_rfl
theorem PR (T j:Nat):T%2 ^ (j+1)=T%2 ^ j+2 ^ j*(T / 2 ^ j%2):=by
 rw [bM,qJ]
theorem aNz {a:List Int} (ha:gK a=true) (i:Int):Nq.run [W8 a,.int .i64 i]=some (nM (val a) i):=by
 show cond (gK a) _ none=_;rw [ha]; rfl
theorem aF8 (T j:Nat) (hj:j < 512) (hb:T / 2 ^ j%2=1) :
  (cM 8 (T%2 ^ j)).set (Mv j) (Fv .u64 ((cM 8 (T%2 ^ j)).getD (Mv j) 0) (mE .u64 1 ((j:Int).tmod 64)))=cM 8 (T%2 ^ (j+1)):=by
 obtain ⟨_,g2,g3⟩:=WX j hj;have hq:j / 64 < 8:=by omega
 have hr:j%64 < 64:=bH _ (by omega);have hx:T%2 ^ j / 18446744073709551616 ^ (j / 64) < 2 ^ (j%64):=by
  rw [DP (jF (by omega)),D9,<-dV,show j%64+64*(j / 64)=j by omega];exact bH _ (jF (by omega))
 have hr2:2 ^ (j%64) <= 2 ^ 63:=kM (by omega) (by omega);have hp:(2:Nat) ^ 63=9223372036854775808:=by decide
 rw [g2,g3,zU 8 _ _ hq,show (1:Int)=((1:Nat):Int) from rfl,Gw 1 _ hr,mZ];rw [aY (by omega:T%2 ^ j / 18446744073709551616 ^ (j / 64) < 18446744073709551616),aY (by omega:2 ^ (j%64) < 18446744073709551616)];rw [Sn _ _ (by omega) (by omega),aNs _ _ hx,aVc 8 _ _ _ hq (by omega)];rw [PR,hb,gY,D9,<-dV,show 64*(j / 64)+j%64=j by omega]
theorem Mw {a:List Int} {sh:Int} {T fu:Nat} {K:Ex->St->Option AV} (ha:gK a=true) (h1:-512 < sh) (h2:sh < 512) (hT:∀ j:Nat,j < 512->nM (val a) ((j:Int) - sh)=T / 2 ^ j%2) :
  ∀ (m j n:Nat),j+m=512->m < n->Fr prog sI fu Tryz.f126 Em K n (some (aNx a (cM 8 (T%2 ^ j)) sh j))=K (.exit 0) (bFU (cM 8 T)):=by
 intro m
 induction m with
 | zero=>
  intro j n hj hn;obtain ⟨n,rfl⟩:=aP (by omega:n ≠ 0);have h8:=KC 8 T;rw [D9] at h8;have e:cM 8 (T%2 ^ j)=cM 8 T:=by rw [show j=64*8 by omega]; exact h8
  have hge:¬ (j:Int) < 512:=by omega
  rw [oT,EB,e];simp only [hge,qO,aE];rfl
 | succ m ih=>
  intro j n hj hn;obtain ⟨n,rfl⟩:=aP (by omega:n ≠ 0);have hlt:(j:Int) < 512:=by omega
  obtain ⟨g1,g2,g3⟩:=WX j (by omega);have hneg:¬ ((j:Int).tmod 64 < 0):=by rw [g3]; omega
  have e1:i64.wrap ((j:Int)+1)=((j+1:Nat):Int):=by rw [bW (by omega) (by omega)]; rfl
  rw [oT,EB,bW (by omega) (by omega),aNz ha,hT j (by omega)];simp only [hlt,qP,aB,aC,g1,hneg,qO,aE,e1];by_cases hb:T / 2 ^ j%2=1
  ·rw [aF8 T j (by omega) hb,hb];exact ih (j+1) n (by omega) (by omega)
  ·have h0:T / 2 ^ j%2=0:=by omega
   have e2:T%2 ^ j=T%2 ^ (j+1):=by rw [PR,h0]; simp
   rw [h0,e2];exact ih (j+1) n (by omega) (by omega)
def Ak (n:Nat) (sh:Int):Nat:=cond (decide (512 <= sh) || decide (sh <= -512)) 0 (cond (decide (sh < 0)) (n / 2 ^ (-sh).toNat) (n*2 ^ sh.toNat))
def Sw:Summ where
 T:=Nat
 run:=λ
  | [.c (.s (.pl (.agg (.ints .u64 a) 8))),.c (.s (.pl (.int .i64 i)))]=>cond (gK a) (some (Ak (val a) i)) none
  | _=>none
 enc:=λ n=>W8 (cM 8 n)
theorem WY (n s j:Nat):n*2 ^ s / 2 ^ j%2=if j < s then 0 else n / 2 ^ (j - s)%2:=by
 split
 ·rename_i h;obtain ⟨k,rfl⟩:∃ k,s=j+1+k:=⟨s - j - 1,by omega⟩;rw [show n*2 ^ (j+1+k)=n*2 ^ k*2*2 ^ j by rw [dV,bM]; ac_rfl,Nat.mul_div_cancel _ (jF (by omega))];omega
 ·rename_i h;obtain ⟨k,rfl⟩:∃ k,j=s+k:=⟨j - s,by omega⟩;rw [dV,bV (2 ^ s) (2 ^ k),Nat.mul_div_mul_right _ _ (jF (by omega)),show s+k - s=k by omega]
theorem Mx:CallOk prog 126 Sw:=by
 refine lL (g:=sI) (fu:=λ _=>600) kD Γ_shift Tryz.func126 (by kernel_rfl) ?_;intro args t ht;simp only [Sw] at ht;split at ht
 ·rename_i a sh;obtain ⟨ha,h2⟩:=bA ht;cases h2;refine (aNy 600 a sh).trans ?_;show _=some (W8 (cM 8 (Ak (val a) sh)));unfold Ak;cases hc:decide (512 <= sh) || decide (sh <= -512)
  ·simp only [Es,decide_eq_false_iff_not] at hc;simp only [aE];by_cases hneg:sh < 0
   ·obtain ⟨s,rfl⟩:∃ s:Nat,sh=-(s:Int):=⟨(-sh).toNat,by omega⟩;have:=Mw (a:=a) (sh:=-(s:Int)) (T:=val a / 2 ^ s) (fu:=600) (K:=Ib prog sI 600 Tryz.f126 Em) ha (by omega) (by omega) (λ j hj=>by
     unfold nM;rw [show (decide ((j:Int) - -(s:Int) < 0))=false by simp; omega,aE,show ((j:Int) - -(s:Int)).toNat=s+j by omega,dV,jE]) 512 0 600 (by omega) (by omega)
    rw [iY,qK] at this;refine (this.trans (Gz 600 _)).trans ?_;simp only [hneg,qP,aB];rw [show (- -(s:Int)).toNat=s by omega]
   ·obtain ⟨s,rfl⟩:=bZ (by omega:0 <= sh);have:=Mw (a:=a) (sh:=(s:Int)) (T:=val a*2 ^ s) (fu:=600) (K:=Ib prog sI 600 Tryz.f126 Em) ha (by omega) (by omega) (λ j hj=>by
     unfold nM;rw [WY];by_cases hjs:j < s
     ·rw [show (decide ((j:Int) - (s:Int) < 0))=true by simp; omega,aB,aX hjs]
     ·rw [show (decide ((j:Int) - (s:Int) < 0))=false by simp; omega,aE,aV hjs,show ((j:Int) - (s:Int)).toNat=j - s by omega]) 512 0 600 (by omega) (by omega)
    rw [iY,qK] at this;refine (this.trans (Gz 600 _)).trans ?_;simp only [hneg,qO,aE];rw [bD]
  ·simp only [aB];rw [show cM 8 0=iT by decide]
 ·cases ht
abbrev WZ (x:Int):Int:=u64.wrap x
def Zk (x y:Int):Int × Int :=
 let x0:=fH .u64 x 4294967295;let x1:=eJ .u64 x 32;let y0:=fH .u64 y 4294967295;let y1:=eJ .u64 y 32;let t:=WZ (WZ (x1*y0)+eJ .u64 (WZ (x0*y0)) 32);let u:=WZ (fH .u64 t 4294967295+WZ (x0*y1))
 (WZ (WZ (WZ (x1*y1)+eJ .u64 t 32)+eJ .u64 u 32),WZ (x*y))
theorem aNA (x y:Int):aS prog Tryz.f114 EA WT [.int .u64 x,.int .u64 y]=some (aF5 (Zk x y)):=by kernel_rfl
theorem aF9 (p q r s:Nat) (hq:q <= 18446744065119617025) (hr:r <= 18446744065119617025) (hs:s <= 18446744065119617025) :
  (p*18446744073709551616+(q+r)*4294967296+s) / 18446744073709551616=p+(q+s / 4294967296) / 4294967296+((q+s / 4294967296)%4294967296+r) / 4294967296:=by omega
theorem aNB (x y:Nat) (hx:x < 18446744073709551616) (hy:y < 18446744073709551616):Zk x y=(((x*y / 18446744073709551616:Nat):Int),((x*y%18446744073709551616:Nat):Int)):=by
 have hx1:x / 4294967296 <= 4294967295:=by omega
 have hx0:x%4294967296 <= 4294967295:=by omega
 have hy1:y / 4294967296 <= 4294967295:=by omega
 have hy0:y%4294967296 <= 4294967295:=by omega
 have e32:(2:Nat) ^ 32=4294967296:=by decide
 have s32:∀ z:Nat,eJ .u64 (z:Int) 32=((z / 4294967296:Nat):Int):=λ z=>by
  rw [show (32:Int)=((32:Nat):Int) from rfl,pF z 32 (by omega),e32]
 have hp:=jT hx1 hy1;have hq:=jT hx1 hy0;have hr:=jT hx0 hy1;have hs:=jT hx0 hy0;have hxy:x*y=(x / 4294967296)*(y / 4294967296)*18446744073709551616+((x / 4294967296)*(y%4294967296)+(x%4294967296)*(y / 4294967296))*4294967296+(x%4294967296)*(y%4294967296):=by
  have e1:x=(x / 4294967296)*4294967296+x%4294967296:=by omega
  have e2:y=(y / 4294967296)*4294967296+y%4294967296:=by omega
  generalize x / 4294967296=a at *;generalize x%4294967296=b at *;generalize y / 4294967296=c at *;generalize y%4294967296=d at *;subst e1; subst e2;grind
 unfold Zk;simp only [aDf x hx,aDf y hy,s32,WZ,<-qG,gP];generalize (x / 4294967296)*(y / 4294967296)=p at *;generalize (x / 4294967296)*(y%4294967296)=q at *;generalize (x%4294967296)*(y / 4294967296)=r at *;generalize (x%4294967296)*(y%4294967296)=s at *;generalize x*y=xy at *;rw [aY (by omega:q < 18446744073709551616),aY (by omega:s < 18446744073709551616),aY (by omega:r < 18446744073709551616),aY (by omega:p < 18446744073709551616)];simp only [s32,<-iE,gP];rw [aY (by omega:q+s / 4294967296 < 18446744073709551616),aDf _ (by omega)];simp only [s32,<-iE,gP];rw [aY (by omega:(q+s / 4294967296)%4294967296+r < 18446744073709551616)];congr 2;rw [hxy,aF9 p q r s (by omega) (by omega) (by omega)];omega
def iV (x:Int):Bool:=decide (0 <= x /\ x < 18446744073709551616)
def tX:Summ where
 T:=Int × Int
 run:=λ
  | [.c (.s (.pl (.int .u64 x))),.c (.s (.pl (.int .u64 y)))]=>cond (iV x && iV y) (some (x*y / 18446744073709551616,x*y%18446744073709551616)) none
  | _=>none
 enc:=aF5
theorem Wa:CallOk prog 114 tX:=by
 refine lL (g:=EA) (fu:=λ _=>WT) kD aH Tryz.func114 (by kernel_rfl) ?_;intro args t ht;simp only [tX] at ht;split at ht
 ·rename_i x y;obtain ⟨h1,h2⟩:=bA ht;simp only [iV,aW,bJ] at h1;cases h2;obtain ⟨x,rfl⟩:=bZ h1.1.1;obtain ⟨y,rfl⟩:=bZ h1.2.1;rw [aNA,aNB x y (by omega) (by omega)];rfl
 ·cases ht
def Zl {β:Type} (M A:FA (Int × Int)) (a:Int):List Int->List Int->Int->Bool->List Int->(List Int->Int->Bool->Option β)->Option β
 | b :: bs,z :: zs,c,ok,acc,K=>(M [.int .u64 a,.int .u64 b]).bind λ t=>(A [.int .u64 t.2,.int .u64 c,.int .u64 0]).bind λ u=>(A [.int .u64 z,.int .u64 u.1,.int .u64 0]).bind λ v=>
   Zl M A a bs zs (WZ (WZ (t.1+u.2)+v.2)) ok (acc++[v.1]) K
 | b :: bs,[],c,ok,acc,K=>(M [.int .u64 a,.int .u64 b]).bind λ t=>Zl M A a bs [] 0 (((ok && decide (t.1=0)) && decide (t.2=0)) && decide (c=0)) acc K
 | [],zs,c,ok,acc,K=>K (acc++zs) c ok
def aNC {β:Type} (M A:FA (Int × Int)):List Int->List Int->List Int->List Int->Bool->(List Int->Bool->Option β)->Option β
 | a :: x,y,d,zs,ok,K=>Zl M A a y zs 0 ok [] λ zs' c ok'=>match zs' with
  | z :: r=>aNC M A x y (d++[z]) r (ok' && decide (c=0)) K
  | []=>none
 | [],y,d,zs,ok,K=>K (d++zs) ok
def aND:Cg:=⟨⟨cV [(114,tX),(115,lT)],[],cX⟩,[(5,[3,4,5,6,7,16,17],[4,5,6,7]),(9,[3,4,5,6,7,8,9,10,16,17,21,22],[3,4,5,6,7,10,16,17])]⟩
theorem Γ_mul:∀ f A,aND.c.Γ f=some A->CallOk prog f A:=aA Wa (aA Mr aH)
theorem bFV (a0 a1 a2 a3 a4 a5 a6 a7 b0 b1 b2 b3 b4 b5 b6 b7:Int):aS prog Tryz.f153 aND 20 [W8 [a0,a1,a2,a3,a4,a5,a6,a7],W8 [b0,b1,b2,b3,b4,b5,b6,b7]]
 =aNC tX.run lT.run [a0,a1,a2,a3,a4,a5,a6,a7] [b0,b1,b2,b3,b4,b5,b6,b7] [] iT true (λ l ok=>some (.tup [.s (.pl (.agg (.ints .u64 l) 8)),.s (.pl (.bool ok))])):=by kernel_rfl
theorem H5 (x y:Nat) (hx:x < 18446744073709551616) (hy:y < 18446744073709551616):tX.run [.int .u64 x,.int .u64 y]=some (((x*y / 18446744073709551616:Nat):Int),((x*y%18446744073709551616:Nat):Int)):=by
 have h1:iV (x:Int)=true:=by simp only [iV,bJ]; omega
 have h2:iV (y:Int)=true:=by simp only [iV,bJ]; omega
 simp only [tX,h1,h2,CY,aB];have e:((x:Int)*y / 18446744073709551616,(x:Int)*y%18446744073709551616)=(((x*y / 18446744073709551616:Nat):Int),((x*y%18446744073709551616:Nat):Int)):=by
  rw [<-qG];generalize x*y=p;exact qN (by show (p:Int) / _=_; omega) (by show (p:Int)%_=_; omega)
 exact dW some e
theorem aGa (x y c:Nat) (hx:x < 18446744073709551616) (hy:y < 18446744073709551616) (hc:c <= 1):lT.run [.int .u64 x,.int .u64 y,.int .u64 c]=some ((((x+y+c)%18446744073709551616:Nat):Int),(((x+y+c) / 18446744073709551616:Nat):Int)):=by
 have h1:xX x y c=true:=by simp only [xX,aW,bJ]; omega
 simp only [lT,h1,aB];have e:(((x:Int)+y+c)%18446744073709551616,((x:Int)+y+c) / 18446744073709551616)=((((x+y+c)%18446744073709551616:Nat):Int),(((x+y+c) / 18446744073709551616:Nat):Int)):=qN (by show ((x:Int)+y+c)%_=_; omega) (by show ((x:Int)+y+c) / _=_; omega);exact dW some e
theorem Iz (x y:Nat) (hx:x < 18446744073709551616) (hy:y < 18446744073709551616):lT.run [.int .u64 x,.int .u64 y,.int .u64 0]=some ((((x+y)%18446744073709551616:Nat):Int),(((x+y) / 18446744073709551616:Nat):Int)):=aGa x y 0 hx hy (by omega)
theorem aNE {γ:Type} (M D:FA (Int × Int)) (hM:∀ x y:Nat,x < 18446744073709551616->y < 18446744073709551616->M [.int .u64 x,.int .u64 y]=some (((x*y / 18446744073709551616:Nat):Int),((x*y%18446744073709551616:Nat):Int)))
  (hD:∀ x y:Nat,x < 18446744073709551616->y < 18446744073709551616->D [.int .u64 x,.int .u64 y,.int .u64 0]=some ((((x+y)%18446744073709551616:Nat):Int),(((x+y) / 18446744073709551616:Nat):Int))) (A b C z:Nat) (hA:A < 18446744073709551616) (hb:b < 18446744073709551616) (hC:C < 18446744073709551616) (hz:z < 18446744073709551616) (F:Int->Int->Option γ) :
  ((M [.int .u64 A,.int .u64 b]).bind λ t:Int × Int=>(D [.int .u64 t.2,.int .u64 C,.int .u64 0]).bind λ u:Int × Int=>(D [.int .u64 z,.int .u64 u.1,.int .u64 0]).bind λ v:Int × Int=>F (WZ (WZ (t.1+u.2)+v.2)) v.1)
  =F (((A*b+C+z) / 18446744073709551616:Nat):Int) (((A*b+C+z)%18446744073709551616:Nat):Int):=by
 have hab:A*b <= 18446744073709551615*18446744073709551615:=jT (by omega) (by omega);rw [hM A b hA hb];generalize A*b=p at *;have hhi:p / 18446744073709551616 < 18446744073709551616:=by omega
 have hlo:p%18446744073709551616 < 18446744073709551616:=bH _ (by omega);have key:p=p / 18446744073709551616*18446744073709551616+p%18446744073709551616:=by omega
 generalize p / 18446744073709551616=hi at *;generalize p%18446744073709551616=lo at *;rw [aC,hD lo C hlo hC,aC];have hu1:(lo+C)%18446744073709551616 < 18446744073709551616:=bH _ (by omega);have keyu:lo+C=(lo+C) / 18446744073709551616*18446744073709551616+(lo+C)%18446744073709551616:=by omega
 generalize (lo+C) / 18446744073709551616=u2 at *;generalize (lo+C)%18446744073709551616=u1 at *;rw [hD z u1 hz hu1,aC];have keyv:z+u1=(z+u1) / 18446744073709551616*18446744073709551616+(z+u1)%18446744073709551616:=by omega
 have hv1:(z+u1)%18446744073709551616 < 18446744073709551616:=bH _ (by omega);generalize (z+u1) / 18446744073709551616=v2 at *;generalize (z+u1)%18446744073709551616=v1 at *;have e:WZ (WZ ((hi:Int)+(u2:Int))+(v2:Int))=(((p+C+z) / 18446744073709551616:Nat):Int):=by
  unfold WZ;rw [<-iE,gP,<-iE,gP];congr 1;omega
 have e2:v1=(p+C+z)%18446744073709551616:=by omega
 rw [<-e2];exact dW (λ q=>F q (v1:Int)) e
theorem aVh {β:Type} {A:Nat} (hA:A < 18446744073709551616):∀ (bs zs:List Int) (C:Nat) (ok:Bool) (acc:List Int) (K:List Int->Int->Bool->Option β),tU bs=true->tU zs=true->zs.length <= bs.length->C < 18446744073709551616 ->
  ∃ (c':Int) (ok':Bool),Zl tX.run lT.run A bs zs C ok acc K=K (acc++cM zs.length (val zs+A*val bs+C)) c' ok' /\ (ok' && decide (c'=0))=(ok && decide (val zs+A*val bs+C < 18446744073709551616 ^ zs.length)):=by
 intro bs
 induction bs with
 | nil=>
  intro zs C ok acc K hb hz hl hC;cases zs with
  | nil=>
   refine ⟨C,ok,by simp [Zl,cM],?_⟩;have d:decide ((C:Int)=0)=decide (val []+A*val []+C < 18446744073709551616 ^ ([]:List Int).length):=mA.2 (by simp [val]);rw [d]
  | cons _ _=>simp at hl
 | cons b bs ih=>
  intro zs C ok acc K hb hz hl hC;simp only [tU,aW,bJ] at hb;obtain ⟨b,rfl⟩:=bZ hb.1.1;have hbl:b < 18446744073709551616:=by omega
  have hab:A*b <= 18446744073709551615*18446744073709551615:=jT (by omega) (by omega);have hdist:A*(b+18446744073709551616*val bs)=A*b+18446744073709551616*(A*val bs):=by
   rw [yC]; congr 1; rw [<-dU,bV A,dU]
  cases zs with
  | nil=>
   obtain ⟨c',ok',h1,h2⟩:=ih [] 0 (((ok && decide (((A*b / 18446744073709551616:Nat):Int)=0)) && decide (((A*b%18446744073709551616:Nat):Int)=0)) && decide ((C:Int)=0)) acc K hb.2 rfl (by simp) (by omega);refine ⟨c',ok',?_,?_⟩
   ·simp only [Zl,H5 A b hA hbl,aC];exact h1
   ·have d1:decide (val []+A*val bs+0 < 18446744073709551616 ^ ([]:List Int).length)=decide (A*val bs < 1):=mA.2 (by simp [val]);have d2:decide (val []+A*val ((b:Int) :: bs)+C < 18446744073709551616 ^ ([]:List Int).length)=decide (A*b+18446744073709551616*(A*val bs)+C < 1):=mA.2 (by
     simp only [val,TB,iY,bD,hdist,bT])
    rw [h2,d1,d2];clear h1 h2 d1 d2 hdist ih;generalize A*b=p at *;generalize A*val bs=q at *;cases ok
    ·simp
    ·simp only [mO];rw [M7];simp only [aW,bJ];omega
  | cons z zs=>
   simp only [tU,aW,bJ] at hz;obtain ⟨z,rfl⟩:=bZ hz.1.1;have hzl:z < 18446744073709551616:=by omega
   have hl':zs.length <= bs.length:=by simpa using hl
   obtain ⟨c',ok',h1,h2⟩:=ih zs ((A*b+C+z) / 18446744073709551616) ok (acc++[(((A*b+C+z)%18446744073709551616:Nat):Int)]) K hb.2 hz.2 hl' (by omega);refine ⟨c',ok',?_,?_⟩
   ·refine (aNE tX.run lT.run H5 Iz A b C z hA hbl hC hzl (λ c v=>Zl tX.run lT.run A bs zs c ok (acc++[v]) K)).trans (h1.trans ?_);simp only [val,fY,cM,bD,hdist,iO,KH];generalize A*b=p at *;generalize A*val bs=q at *;have f1:(z+18446744073709551616*val zs+(p+18446744073709551616*q)+C)%18446744073709551616=(p+C+z)%18446744073709551616:=by omega
    have f2:(z+18446744073709551616*val zs+(p+18446744073709551616*q)+C) / 18446744073709551616=val zs+q+(p+C+z) / 18446744073709551616:=by omega
    rw [f1,f2]
   ·have d:decide (val zs+A*val bs+(A*b+C+z) / 18446744073709551616 < 18446744073709551616 ^ zs.length)=decide (val ((z:Int) :: zs)+A*val ((b:Int) :: bs)+C < 18446744073709551616 ^ ((z:Int) :: zs).length):=mA.2 (by
     simp only [val,fY,bD,hdist,bM];generalize A*b=p at *;generalize A*val bs=q at *;generalize 18446744073709551616 ^ zs.length=m at *;omega)
    rw [h2,d]
theorem aGb {k m n:Nat} (h:m%18446744073709551616 ^ k=n%18446744073709551616 ^ k):cM k m=cM k n:=by
 rw [<-KC k m,<-KC k n,h]
theorem aVi {β:Type} {y:List Int} (hy:tU y=true):∀ (x d zs:List Int) (ok:Bool) (K:List Int->Bool->Option β),tU x=true->tU zs=true->zs.length=x.length->zs.length <= y.length ->
  aNC tX.run lT.run x y d zs ok K=K (d++cM zs.length (val zs+val x*val y)) (ok && decide (val zs+val x*val y < 18446744073709551616 ^ zs.length)):=by
 intro x
 induction x with
 | nil=>
  intro d zs ok K hx hz hl hy';cases zs with
  | nil=>simp [aNC,cM,val]
  | cons _ _=>simp at hl
 | cons a x ih=>
  intro d zs ok K hx hz hl hy';cases zs with
  | nil=>simp at hl
  | cons z zs=>
   simp only [tU,aW,bJ] at hx;obtain ⟨A,rfl⟩:=bZ hx.1.1;have hl':zs.length=x.length:=by simpa using hl
   simp only [fY] at hy';obtain ⟨c',ok',h1,h2⟩:=aVh (A:=A) (by omega) y (z :: zs) 0 ok [] (λ zs' c ok'=>match zs' with
    | z :: r=>aNC tX.run lT.run x y (d++[z]) r (ok' && decide (c=0)) K
    | []=>none) hy hz (by simpa using hy') (by omega)
   refine h1.trans ?_;simp only [lF,fY,cM,fP];simp only [fY,fP] at h2;rw [h2];have:=ih (d++[(((val (z :: zs)+A*val y)%18446744073709551616:Nat):Int)]) (cM zs.length ((val (z :: zs)+A*val y) / 18446744073709551616)) (ok && decide (val (z :: zs)+A*val y < 18446744073709551616 ^ (zs.length+1))) K hx.2 (Sl _ _) (by rw [wP]; exact hl') (by rw [wP]; omega);rw [this,wP,Sm];have hv:val ((A:Int) :: x)*val y=A*val y+18446744073709551616*(val x*val y):=by
    simp only [val,bD,fX,dU]
   rw [hv,<-sN];generalize val (z :: zs)+A*val y=N at *;generalize val x*val y=X at *;have f1:(N+18446744073709551616*X)%18446744073709551616=N%18446744073709551616:=by omega
   have f2:(N+18446744073709551616*X) / 18446744073709551616=N / 18446744073709551616+X:=by omega
   rw [f1,f2,iO,KH];congr 1
   ·congr 2;exact aGb (by simp)
   ·rw [Bool.and_assoc];congr 1;have e:18446744073709551616 ^ (z :: zs).length=18446744073709551616 ^ zs.length*18446744073709551616:=by rw [fY,bM]
    by_cases hN:N < 18446744073709551616 ^ (zs.length+1)
    ·have hN':N < 18446744073709551616 ^ zs.length*18446744073709551616:=hN;have h5:N / 18446744073709551616%18446744073709551616 ^ zs.length=N / 18446744073709551616:=aY (by omega);simp only [hN,qP,mO,h5];exact mA.2 (by rw [bM]; omega)
    ·have hN':¬ N < 18446744073709551616 ^ zs.length*18446744073709551616:=hN;have h3:¬ N+18446744073709551616*X < 18446744073709551616 ^ (zs.length+1):=by rw [bM]; omega
     simp only [hN,qO,tY,fY,h3]
def aNF (a b:List Int):Nat × Bool:=(val a*val b,decide (val a*val b < gD))
def bFW:Summ:={ T:=Nat × Bool,run:=Sp aNF,enc:=Ms }
theorem aNG:CallOk prog 153 bFW:=by
 refine lL (g:=aND) (fu:=λ _=>20) kD Γ_mul Tryz.func153 (by kernel_rfl) ?_;intro args t ht;obtain ⟨a,b,rfl,ha,hb,rfl⟩:=DF ht;have key:=aVi (wQ hb) a [] iT true (λ l ok=>some (AV.tup [.s (.pl (.agg (.ints .u64 l) 8)),.s (.pl (.bool ok))])) (wQ ha) (by decide) (by rw [lA ha]; rfl) (by rw [lA hb]; simp);simp only [lF,mO,show val iT=0 by decide,bT,show iT.length=8 from rfl,<-sG] at key;have lQ:∀ a b:List Int,(some (AV.tup [.s (.pl (.agg (.ints .u64 (cM 8 (val a*val b))) 8)),.s (.pl (.bool (decide (val a*val b < gD))))]):Option AV)=some (bFW.enc (aNF a b)):=λ _ _=>rfl;rw [lQ] at key;obtain ⟨a0,a1,a2,a3,a4,a5,a6,a7,rfl⟩:=zT ha;obtain ⟨b0,b1,b2,b3,b4,b5,b6,b7,rfl⟩:=zT hb;exact (bFV a0 a1 a2 a3 a4 a5 a6 a7 b0 b1 b2 b3 b4 b5 b6 b7).trans key
end
end Go.Eng
