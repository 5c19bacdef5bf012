import Derived.KernelRfl
import Derived.Test.YtmicbaijcbkmjaaGreatEngNums
namespace Go.Eng
open Go.IntKind (u64 i64 u8)
noncomputable section
set_option linter.all false
def val:List Int->Nat
 | []=>0
 | x :: r=>x.toNat+18446744073709551616*val r
def cQ:Nat->Nat->List Int
 | 0,_=>[]
 | k+1,n=>((n%18446744073709551616:Nat):Int) :: cQ k (n / 18446744073709551616)
def qR:List Int->Bool
 | []=>true
 | x :: r=>decide (0 <= x /\ x < 18446744073709551616) && qR r
def jO (a:List Int):Bool:=Nat.beq a.length 8 && qR a
def fK:Nat:=13407807929942597099574024998205846127479365820592393377723561443721764030073546976801874298166903427690031858186486050853753882811946569946433649006084096
theorem pI:fK=18446744073709551616 ^ 8:=by decide +kernel
theorem tB (k n:Nat):(cQ k n).length=k:=by
 induction k generalizing n with
 | zero=>rfl
 | succ k ih=>simp [cQ,ih]
theorem NP (k n:Nat):qR (cQ k n)=true:=by
 induction k generalizing n with
 | zero=>rfl
 | succ k ih=>
  simp only [cQ,qR,ih,Fo,bG];omega
theorem fA (n:Nat):jO (cQ 8 n)=true:=by simp [jO,tB,NP]
theorem NQ (k n:Nat):val (cQ k n)=n%18446744073709551616 ^ k:=by
 induction k generalizing n with
 | zero=>simp [cQ,val,uV]
 | succ k ih=>
  simp only [cQ,val,ih,bE];rw [bM,cG (_ ^ k),uU]
theorem WT:∀ a:List Int,qR a=true->cQ a.length (val a)=a:=by
 intro a
 induction a with
 | nil=>intro _; rfl
 | cons x r ih=>
  intro h;simp only [qR,aX,bG] at h;simp only [fF,cQ,val];have e1:(x.toNat+18446744073709551616*val r)%18446744073709551616=x.toNat:=by omega
  have e2:(x.toNat+18446744073709551616*val r) / 18446744073709551616=val r:=by omega
  rw [e1,e2,ih h.2];congr 1; omega
theorem TZ:∀ a:List Int,qR a=true->val a < 18446744073709551616 ^ a.length:=by
 intro a
 induction a with
 | nil=>intro _; simp [val]
 | cons x r ih=>
  intro h;simp only [qR,aX,bG] at h;have:=ih h.2;simp only [fF,val,bM];have h3:x.toNat < 18446744073709551616:=by omega
  have h4:(val r+1)*18446744073709551616 <= 18446744073709551616 ^ r.length*18446744073709551616:=pT _ this;omega
theorem uA {a:List Int} (h:jO a=true):a.length=8:=by
 simp only [jO,aX] at h; exact aS h.1
theorem tC {a:List Int} (h:jO a=true):qR a=true:=by
 simp only [jO,aX] at h; exact h.2
theorem nL {a:List Int} (h:jO a=true):cQ 8 (val a)=a:=by
 have:=WT a (tC h);rwa [uA h] at this
theorem xP {a:List Int} (h:jO a=true):val a < fK:=by
 have:=TZ a (tC h);rw [uA h] at this;rw [pI]; exact this
theorem kL (n:Nat):val (cQ 8 n)=n%fK:=by rw [NQ,pI]
theorem HR (k n:Nat):cQ k (n%18446744073709551616 ^ k)=cQ k n:=by
 have:=WT (cQ k n) (NP k n);rw [tB,NQ] at this; exact this
theorem QZ (n:Nat):cQ 8 (n%fK)=cQ 8 n:=by rw [pI]; exact HR 8 n
theorem wC {a:List Int} (h:jO a=true):∃ a0 a1 a2 a3 a4 a5 a6 a7,a=[a0,a1,a2,a3,a4,a5,a6,a7]:=by
 have:=uA h
 match a,this with
 | [a0,a1,a2,a3,a4,a5,a6,a7],_=>exact ⟨a0,a1,a2,a3,a4,a5,a6,a7,rfl⟩
def Qa:List Int->List Int->Int->List Int × Int
 | a :: x,b :: y,c=>let r:=Qa x y ((a+b+c) / 18446744073709551616); ((a+b+c)%18446744073709551616 :: r.1,r.2)
 | _,_,c=>([],c)
theorem aKI:∀ (x y:List Int) (c:Nat),qR x=true->qR y=true->x.length=y.length->c <= 1 ->
  Qa x y c=(cQ x.length (val x+val y+c),(((val x+val y+c) / 18446744073709551616 ^ x.length:Nat):Int)):=by
 intro x
 induction x with
 | nil=>intro y c _ _ hl _; cases y <;> simp_all [Qa,cQ,val]
 | cons a x ih=>
  intro y c hx hy hl hc;cases y with
  | nil=>simp at hl
  | cons b y=>
   simp only [qR,aX,bG] at hx hy;simp only [fF,Hm] at hl;obtain ⟨A,rfl⟩:=b9 hx.1.1;obtain ⟨Bn,rfl⟩:=b9 hy.1.1;have e:((A:Int)+Bn+c) / 18446744073709551616=(((A+Bn+c) / 18446744073709551616:Nat):Int):=by omega
   have e2:((A:Int)+Bn+c)%18446744073709551616=(((A+Bn+c)%18446744073709551616:Nat):Int):=by omega
   simp only [Qa,e,e2];rw [ih y _ hx.2 hy.2 hl (by omega)];simp only [val,bE,cQ,fF];have f1:(A+18446744073709551616*val x+(Bn+18446744073709551616*val y)+c)%18446744073709551616=(A+Bn+c)%18446744073709551616:=by omega
   have f2:(A+18446744073709551616*val x+(Bn+18446744073709551616*val y)+c) / 18446744073709551616=val x+val y+(A+Bn+c) / 18446744073709551616:=by omega
   rw [f1,f2,bM,cG (_ ^ x.length),<-gR,f2]
def Qb:List Int->List Int->Int->List Int × Int
 | a :: x,b :: y,c=>let r:=Qb x y (cond (decide (a < b+c)) 1 0); ((a+18446744073709551616 - b - c)%18446744073709551616 :: r.1,r.2)
 | _,_,c=>([],c)
theorem aKJ:∀ (x y:List Int) (c:Nat),qR x=true->qR y=true->x.length=y.length->c <= 1 ->
  Qb x y c=(cQ x.length (val x+18446744073709551616 ^ x.length - val y - c),cond (decide (val x < val y+c)) 1 0):=by
 intro x
 induction x with
 | nil=>
  intro y c _ _ hl hc;cases y with
  | nil=>
   have:c=0 ∨ c=1:=by omega
   rcases this with rfl | rfl <;> simp [Qb,cQ,val]
  | cons _ _=>simp at hl
 | cons a x ih=>
  intro y c hx hy hl hc;cases y with
  | nil=>simp at hl
  | cons b y=>
   have hvy:=TZ y (by simp only [qR,aX] at hy; exact hy.2);simp only [qR,aX,bG] at hx hy;simp only [fF,Hm] at hl;rw [<-hl] at hvy;obtain ⟨A,rfl⟩:=b9 hx.1.1;obtain ⟨Bn,rfl⟩:=b9 hy.1.1;have ih1:=ih y (cond (decide ((A:Int) < Bn+c)) 1 0) hx.2 hy.2 hl (by cases decide ((A:Int) < Bn+c) <;> simp);have ec:(((cond (decide ((A:Int) < Bn+c)) 1 0:Nat)):Int)=cond (decide ((A:Int) < Bn+c)) 1 0:=by cases decide ((A:Int) < Bn+c) <;> rfl
   rw [ec] at ih1;simp only [Qb,ih1];clear ih ih1;simp only [val,bE,cQ,fF,bM];generalize 18446744073709551616 ^ x.length=p at *;by_cases hd:(A:Int) < Bn+c
   ·have hd':A < Bn+c:=by omega
    simp only [hd,oF,aB];have g1:(A+18446744073709551616*val x+p*18446744073709551616 - (Bn+18446744073709551616*val y) - c) / 18446744073709551616=val x+p - val y - 1:=by omega
    have g2:((A:Int)+18446744073709551616 - Bn - c)%18446744073709551616=(((A+18446744073709551616*val x+p*18446744073709551616 - (Bn+18446744073709551616*val y) - c)%18446744073709551616:Nat):Int):=by omega
    rw [g1,g2];congr 2;exact j7.2 (by omega)
   ·have hd':¬ A < Bn+c:=by omega
    simp only [hd,oE,aD];have g1:(A+18446744073709551616*val x+p*18446744073709551616 - (Bn+18446744073709551616*val y) - c) / 18446744073709551616=val x+p - val y:=by omega
    have g2:((A:Int)+18446744073709551616 - Bn - c)%18446744073709551616=(((A+18446744073709551616*val x+p*18446744073709551616 - (Bn+18446744073709551616*val y) - c)%18446744073709551616:Nat):Int):=by omega
    rw [g1,g2];congr 2;exact j7.2 (by omega)
theorem Ta {n:Int} (h0:0 <= n) (h1:n < 18446744073709551616):u64.wrap n=n:=by
 simp [IntKind.wrap,IntKind.bits,IntKind.signed]; omega
theorem fN (n:Nat):u64.wrap (n:Int)=((n%18446744073709551616:Nat):Int):=by
 simp [IntKind.wrap,IntKind.bits,IntKind.signed]
theorem Dn (n:Nat):u8.wrap (n:Int)=((n%256:Nat):Int):=by
 simp [IntKind.wrap,IntKind.bits,IntKind.signed]
theorem bY {n:Int} (h0:-9223372036854775808 <= n) (h1:n < 9223372036854775808):i64.wrap n=n:=by
 have e:(2:Int) ^ 64=18446744073709551616:=by decide
 have e2:(2:Int) ^ 63=9223372036854775808:=by decide
 simp only [IntKind.wrap,IntKind.bits,IntKind.signed];simp;omega
theorem mX (x n:Nat) (h:n < 64):eK .u64 (x:Int) (n:Int)=((x / 2 ^ n:Nat):Int):=by
 unfold eK;have:min ((n:Int).toNat) (IntKind.bits .u64)=n:=by
  simp [IntKind.bits]; omega
 rw [this,Int.fdiv_eq_ediv_of_nonneg _ (by exact_mod_cast pW _)]
 push_cast
 rfl
theorem Do (x n:Nat) (h:n < 64):j8 .u64 (x:Int) (n:Int)=((x*2 ^ n%18446744073709551616:Nat):Int):=by
 unfold j8;have:min ((n:Int).toNat) (IntKind.bits .u64)=n:=by
  simp [IntKind.bits]; omega
 rw [this,show ((x:Int)*2 ^ n)=((x*2 ^ n:Nat):Int) by push_cast; rfl,fN]
theorem ZT (x:Nat) (h:x < 18446744073709551616):(BitVec.ofInt 64 (x:Int)).toNat=x:=by
 simp;omega
theorem Dp (x y:Nat) (hx:x < 18446744073709551616) (hy:y < 18446744073709551616):d8 .u64 (x:Int) (y:Int)=((x &&& y:Nat):Int):=by
 unfold d8;have e:(BitVec.ofInt (IntKind.bits .u64) (x:Int) &&& BitVec.ofInt (IntKind.bits .u64) (y:Int)).toNat=x &&& y:=by
  show (BitVec.ofInt 64 (x:Int) &&& BitVec.ofInt 64 (y:Int)).toNat=x &&& y;rw [BitVec.toNat_and,ZT x hx,ZT y hy]
 rw [e,fN,aV];exact iI Nat.and_le_left hx
theorem NR (x y:Nat) (hx:x < 18446744073709551616) (hy:y < 18446744073709551616):Dx .u64 (x:Int) (y:Int)=((x ||| y:Nat):Int):=by
 unfold Dx;have e:(BitVec.ofInt (IntKind.bits .u64) (x:Int) ||| BitVec.ofInt (IntKind.bits .u64) (y:Int)).toNat=x ||| y:=by
  show (BitVec.ofInt 64 (x:Int) ||| BitVec.ofInt 64 (y:Int)).toNat=x ||| y;rw [BitVec.toNat_or,ZT x hx,ZT y hy]
 rw [e,fN,aV];exact Hp (n:=64) hx hy
theorem aKK (x:Nat) (hx:x < 18446744073709551616):d8 .u64 (x:Int) 1=((x%2:Nat):Int):=by
 rw [show (1:Int)=((1:Nat):Int) from rfl,Dp x 1 hx (by omega),Nat.and_one_is_mod]
theorem WU (x:Nat) (hx:x < 18446744073709551616):d8 .u64 (x:Int) 4294967295=((x%4294967296:Nat):Int):=by
 rw [show (4294967295:Int)=((4294967295:Nat):Int) from rfl,Dp x _ hx (by omega)];rw [show (4294967295:Nat)=2 ^ 32 - 1 from rfl,PR]
theorem aDz (x r:Nat) (hx:x < 2 ^ r):x ||| 2 ^ r=x+2 ^ r:=by
 have:=yV hx 1;rw [iY] at this;rw [Nat.or_comm,<-this,Nat.add_comm]
theorem wD:∀ (k q n:Nat),q < k->(cQ k n).getD q 0=((n / 18446744073709551616 ^ q%18446744073709551616:Nat):Int):=by
 intro k
 induction k with
 | zero=>intro q n h; omega
 | succ k ih=>
  intro q n h;cases q with
  | zero=>simp [cQ]
  | succ q=>
   simp only [cQ,As];rw [ih q _ (by omega),bM,cG (_ ^ q),gR]
theorem aKL:∀ (k q n m:Nat),q < k->n / 18446744073709551616 ^ q+m < 18446744073709551616 ->
  (cQ k n).set q (((n / 18446744073709551616 ^ q+m:Nat)):Int)=cQ k (n+18446744073709551616 ^ q*m):=by
 intro k
 induction k with
 | zero=>intro q n m h; omega
 | succ k ih=>
  intro q n m h hm;cases q with
  | zero=>
   simp only [jL,uS,pV] at hm ⊢;simp only [cQ,yS];rw [aV hm,jJ hm,jJ (by omega:n < 18446744073709551616)]
  | succ q=>
   simp only [cQ,Hj];have e1:n / 18446744073709551616 ^ (q+1)=n / 18446744073709551616 / 18446744073709551616 ^ q:=by
    rw [bM,cG (_ ^ q),gR]
   rw [e1] at hm ⊢;rw [ih q (n / 18446744073709551616) m (by omega) hm];have e2:n+18446744073709551616 ^ (q+1)*m=n+18446744073709551616*(18446744073709551616 ^ q*m):=by
    rw [bM,cG (_ ^ q),d9]
   rw [e2];congr 1
   ·congr 1; omega
   ·congr 1; omega
theorem CB (q:Nat):18446744073709551616 ^ q=2 ^ (64*q):=by rw [jK]
theorem aKM (n q r:Nat) (hr:r < 64):n / 18446744073709551616 ^ q%18446744073709551616 / 2 ^ r%2=n / 2 ^ (64*q+r)%2:=by
 rw [CB,dM,<-gR];generalize n / 2 ^ (64*q)=x;have e:18446744073709551616=2 ^ r*(2*2 ^ (63 - r)):=by
  rw [<-Nat.pow_succ',<-dM,show r+(63 - r).succ=64 by omega]
 rw [e,Ho,PS]
open Go Go.Proofs
def W8 (l:List Int):AV:=.s (.pl (.agg (.ints .u64 l) 8))
def Qc:Nat:=1000000
abbrev ZU (t:Int × Int):AV:=.tup [.s (.pl (.int .u64 t.1)),.s (.pl (.int .u64 t.2))]
def uC (x y c:Int):Bool:=decide (0 <= x) && decide (0 <= y) && decide (0 <= c) && decide (c <= 1) && decide (x < 18446744073709551616) && decide (y < 18446744073709551616)
def jU:Summ where
 T:=Int × Int
 run:=λ
  | [.c (.s (.pl (.int .u64 x))),.c (.s (.pl (.int .u64 y))),.c (.s (.pl (.int .u64 c)))]=>cond (uC x y c) (some ((x+y+c)%18446744073709551616,(x+y+c) / 18446744073709551616)) none
  | _=>none
 enc:=ZU
def Cc:Summ where
 T:=Int × Int
 run:=λ
  | [.c (.s (.pl (.int .u64 x))),.c (.s (.pl (.int .u64 y))),.c (.s (.pl (.int .u64 c)))]=>cond (uC x y c) (some ((x+18446744073709551616 - y - c)%18446744073709551616,cond (decide (x < y+c)) 1 0)) none
  | _=>none
 enc:=ZU
theorem WV {w:World} {ρ:Plc} (a b:Int):AVR w ρ (ZU (a,b)) (.tuple #[.int .u64 a,.int .u64 b]):=by
 refine ⟨_,rfl,rfl,λ i x v hx hv=>?_⟩
 match i with
 | 0=>simp at hx hv; subst hx; subst hv; exact ⟨rfl,λ _ _ e=>by cases e⟩
 | 1=>simp at hx hv; subst hx; subst hv; exact ⟨rfl,λ _ _ e=>by cases e⟩
 | i+2=>simp at hx
theorem LI {w:World} {ρ:Plc} {k:IntKind} {x y c:Int} {vs:List Value} (h:AVRs w ρ [.int k x,.int k y,.int k c] vs):vs=[.int k x,.int k y,.int k c]:=by
 match vs,h with
 | [u,v,z],⟨h1,h2,h3,_⟩=>rw [h1.ofInt,h2.ofInt,h3.ofInt]
 | [],h=>simp [AVRs] at h
 | [_],h=>simp [AVRs] at h
 | [_,_],h=>simp [AVRs] at h
 | _ :: _ :: _ :: _ :: _,h=>simp [AVRs] at h
theorem Ic:CallOk prog 136 jU:=by
 refine CallOk.extern (e:=add64Entry) Tryz.func136 (by kernel_rfl) (by kernel_rfl) (by kernel_rfl) (by kernel_rfl) ?_;intro args t ht;simp only [jU] at ht;split at ht
 ·rename_i x y c;obtain ⟨h1,h2⟩:=aY ht;simp only [uC,aX,bG] at h1;cases h2;refine ⟨rfl,λ w X vs hargs=>?_⟩;rw [LI hargs];exact ⟨_,run_add64 x y c (by omega) (by omega) (by omega) (by omega) w,WV _ _⟩
 ·simp at ht
def aXK:Array Value->Sem Value:=(Extern.MathBitsCarry.rows[1]'(by decide)).2
theorem aDA {P:Program} (x y b:Nat) (hb:b <= 1) (w:World):(aXK #[.int .u64 x,.int .u64 y,.int .u64 b]).run P w =
  .ok (.tuple #[.int .u64 (((x+18446744073709551616 - y - b)%18446744073709551616:Nat):Int),.int .u64 ((if x < y+b then 1 else 0:Nat):Int)]) w:=by
 have:b=0 ∨ b=1:=by omega
 rcases this with rfl | rfl <;> rfl
theorem aDB:CallOk prog 137 Cc:=by
 refine CallOk.extern (e:=aXK) Tryz.func137 (by kernel_rfl) (by kernel_rfl) (by kernel_rfl) (by kernel_rfl) ?_;intro args t ht;simp only [Cc] at ht;split at ht
 ·rename_i x y c;obtain ⟨h1,h2⟩:=aY ht;simp only [uC,aX,bG] at h1;cases h2;refine ⟨rfl,λ w X vs hargs=>?_⟩;rw [LI hargs];obtain ⟨x,rfl⟩:=b9 h1.1.1.1.1.1;obtain ⟨y,rfl⟩:=b9 h1.1.1.1.1.2;obtain ⟨c,rfl⟩:=b9 h1.1.1.1.2;refine ⟨_,aDA x y c (by omega) w,?_⟩;have e1:((((x+18446744073709551616 - y - c)%18446744073709551616:Nat)):Int)=((x:Int)+18446744073709551616 - y - c)%18446744073709551616:=by omega
  have e2:(((if x < y+c then 1 else 0:Nat)):Int)=cond (decide ((x:Int) < y+c)) 1 0:=by
   by_cases h:x < y+c
   ·have:(x:Int) < y+c:=by omega
    simp [h,this]
   ·have:¬ (x:Int) < y+c:=by omega
    simp [h,this]
  rw [e1,e2];exact WV _ _
 ·simp at ht
def Dq {β:Type} (A:FA (Int × Int)):List Int->List Int->Int->List Int->(List Int->Int->Option β)->Option β
 | a :: xs,b :: ys,c,acc,K=>(A [.int .u64 a,.int .u64 b,.int .u64 c]).bind λ t=>Dq A xs ys t.2 (acc++[t.1]) K
 | _,_,c,acc,K=>K acc c
def NS:Cg:=⟨⟨dD [(136,jU),(137,Cc)],[],dS⟩,[(5,[2,3,4,6,7,8,9,10,11],[6,7,8,9])]⟩
theorem Γ_both:∀ f A,NS.c.Γ f=some A->CallOk prog f A:=aA Ic (aA aDB aK)
theorem Qd (a0 a1 a2 a3 a4 a5 a6 a7 b0 b1 b2 b3 b4 b5 b6 b7:Int):bB prog Tryz.f135 NS Qc [W8 [a0,a1,a2,a3,a4,a5,a6,a7],W8 [b0,b1,b2,b3,b4,b5,b6,b7],.s (.clo 136 [] [])]
 =Dq jU.run [a0,a1,a2,a3,a4,a5,a6,a7] [b0,b1,b2,b3,b4,b5,b6,b7] 0 [] (λ l c=>some (.tup [.s (.pl (.agg (.ints .u64 l) 8)),.s (.pl (.bool (decide (c=0))))])):=by kernel_rfl
theorem Qe (a0 a1 a2 a3 a4 a5 a6 a7 b0 b1 b2 b3 b4 b5 b6 b7:Int):bB prog Tryz.f135 NS Qc [W8 [a0,a1,a2,a3,a4,a5,a6,a7],W8 [b0,b1,b2,b3,b4,b5,b6,b7],.s (.clo 137 [] [])]
 =Dq Cc.run [a0,a1,a2,a3,a4,a5,a6,a7] [b0,b1,b2,b3,b4,b5,b6,b7] 0 [] (λ l c=>some (.tup [.s (.pl (.agg (.ints .u64 l) 8)),.s (.pl (.bool (decide (c=0))))])):=by kernel_rfl
theorem ZV {β:Type} {K:List Int->Int->Option β}:∀ (x y:List Int) (c:Int) (acc:List Int),qR x=true->qR y=true->x.length=y.length->0 <= c->c <= 1 ->
  Dq jU.run x y c acc K=K (acc++(Qa x y c).1) (Qa x y c).2:=by
 intro x
 induction x with
 | nil=>intro y c acc hx hy hl h0 h1; cases y <;> simp_all [Dq,Qa]
 | cons a x ih=>
  intro y c acc hx hy hl h0 h1;cases y with
  | nil=>simp at hl
  | cons b y=>
   simp only [qR,aX,bG] at hx hy;simp only [fF,Hm] at hl;have e:jU.run [.int .u64 a,.int .u64 b,.int .u64 c]=some ((a+b+c)%18446744073709551616,(a+b+c) / 18446744073709551616):=by
    simp [jU,uC,hx.1.1,hx.1.2,hy.1.1,hy.1.2,h0,h1]
   simp only [Dq,e,aC];rw [ih y _ _ hx.2 hy.2 hl (by omega) (by omega)];simp [Qa]
theorem ZW {β:Type} {K:List Int->Int->Option β}:∀ (x y:List Int) (c:Int) (acc:List Int),qR x=true->qR y=true->x.length=y.length->0 <= c->c <= 1 ->
  Dq Cc.run x y c acc K=K (acc++(Qb x y c).1) (Qb x y c).2:=by
 intro x
 induction x with
 | nil=>intro y c acc hx hy hl h0 h1; cases y <;> simp_all [Dq,Qb]
 | cons a x ih=>
  intro y c acc hx hy hl h0 h1;cases y with
  | nil=>simp at hl
  | cons b y=>
   simp only [qR,aX,bG] at hx hy;simp only [fF,Hm] at hl;have e:Cc.run [.int .u64 a,.int .u64 b,.int .u64 c]=some ((a+18446744073709551616 - b - c)%18446744073709551616,cond (decide (a < b+c)) 1 0):=by
    simp [Cc,uC,hx.1.1,hx.1.2,hy.1.1,hy.1.2,h0,h1]
   simp only [Dq,e,aC];rw [ih y _ _ hx.2 hy.2 hl (by cases decide (a < b+c) <;> simp) (by cases decide (a < b+c) <;> simp)];simp [Qb]
abbrev Id (t:Nat × Bool):AV:=.tup [.s (.pl (.agg (.ints .u64 (cQ 8 t.1)) 8)),.s (.pl (.bool t.2))]
def Tb (a b:List Int):Nat × Bool:=(val a+val b,decide (val a+val b < fK))
def Tc (a b:List Int):Nat × Bool:=(val a+fK - val b,decide (val b <= val a))
theorem aKN (A B:Nat):(some (AV.tup [.s (.pl (.agg (.ints .u64 (cQ 8 (A+B))) 8)),.s (.pl (.bool (decide ((((A+B) / fK:Nat):Int)=((0:Nat):Int)))))]):Option AV)=some (Id (A+B,decide (A+B < fK))):=by
 have:decide ((((A+B) / fK:Nat):Int)=((0:Nat):Int))=decide (A+B < fK):=by
  refine j7.2 ?_;rw [Int.natCast_inj,Nat.div_eq_zero_iff];have:fK ≠ 0:=by decide +kernel
  omega
 rw [this]
def Ie:Summ where
 T:=Nat × Bool
 run:=λ
  | [.c (.s (.pl (.agg (.ints .u64 a) 8))),.c (.s (.pl (.agg (.ints .u64 b) 8))),.c (.s (.clo f [] []))]=>cond (jO a && jO b) (cond (Nat.beq f 136) (some (Tb a b)) (cond (Nat.beq f 137) (some (Tc a b)) none)) none
  | _=>none
 enc:=Id
theorem aKO:CallOk prog 135 Ie:=by
 refine jP (g:=NS) (fu:=λ _=>Qc) gG Γ_both Tryz.func135 (by kernel_rfl) ?_;intro args t ht;simp only [Ie] at ht;split at ht
 ·rename_i a b f;obtain ⟨h1,h2⟩:=aY ht;simp only [aX] at h1;have ha:=tC h1.1;have hb:=tC h1.2;have la:=uA h1.1;have lb:=uA h1.2;have va:=xP h1.1;have vb:=xP h1.2;cases hf:Nat.beq f 136
  ·rw [hf] at h2;simp only [aD] at h2;obtain ⟨h3,h4⟩:=aY h2;have:f=137:=aS h3;subst this;cases h4;have key:=ZW (K:=λ l c=>some (AV.tup [.s (.pl (.agg (.ints .u64 l) 8)),.s (.pl (.bool (decide (c=0))))])) a b 0 [] ha hb (by omega) (by omega) (by omega);rw [show ((0:Int))=((0:Nat):Int) from rfl,aKJ a b 0 ha hb (by omega) (by omega),la] at key;obtain ⟨a0,a1,a2,a3,a4,a5,a6,a7,rfl⟩:=wC h1.1;obtain ⟨b0,b1,b2,b3,b4,b5,b6,b7,rfl⟩:=wC h1.2;refine (Qe a0 a1 a2 a3 a4 a5 a6 a7 b0 b1 b2 b3 b4 b5 b6 b7).trans (key.trans ?_);simp only [rI,Hr,fH,<-pI,Tc];by_cases hc:val [a0,a1,a2,a3,a4,a5,a6,a7] < val [b0,b1,b2,b3,b4,b5,b6,b7]
   ·have hc':¬ val [b0,b1,b2,b3,b4,b5,b6,b7] <= val [a0,a1,a2,a3,a4,a5,a6,a7]:=by omega
    simp [hc,hc']; rfl
   ·have hc':val [b0,b1,b2,b3,b4,b5,b6,b7] <= val [a0,a1,a2,a3,a4,a5,a6,a7]:=by omega
    simp [hc,hc']; rfl
  ·rw [hf] at h2;have:f=136:=aS hf;subst this;cases h2;have key:=ZV (K:=λ l c=>some (AV.tup [.s (.pl (.agg (.ints .u64 l) 8)),.s (.pl (.bool (decide (c=0))))])) a b 0 [] ha hb (by omega) (by omega) (by omega);rw [show ((0:Int))=((0:Nat):Int) from rfl,aKI a b 0 ha hb (by omega) (by omega),la] at key;obtain ⟨a0,a1,a2,a3,a4,a5,a6,a7,rfl⟩:=wC h1.1;obtain ⟨b0,b1,b2,b3,b4,b5,b6,b7,rfl⟩:=wC h1.2;refine (Qd a0 a1 a2 a3 a4 a5 a6 a7 b0 b1 b2 b3 b4 b5 b6 b7).trans (key.trans ?_);simp only [rI,fH,<-pI,Tb];exact aKN _ _
 ·simp at ht
def z8:Cg:=⟨⟨dD [(135,Ie)],[],dS⟩,[]⟩
theorem Γ_addsub:∀ f A,z8.c.Γ f=some A->CallOk prog f A:=aA aKO aK
def Qf {T:Type} (F:List Int->List Int->T):FA T
 | [.c (.s (.pl (.agg (.ints .u64 a) 8))),.c (.s (.pl (.agg (.ints .u64 b) 8)))]=>cond (jO a && jO b) (some (F a b)) none
 | _=>none
theorem Dr {T:Type} {F:List Int->List Int->T} {args:List AV} {t:T} (h:Qf F args=some t):∃ a b,args=[W8 a,W8 b] /\ jO a=true /\ jO b=true /\ t=F a b:=by
 unfold Qf at h;split at h
 ·rename_i a b;obtain ⟨h1,h2⟩:=aY h;simp only [aX] at h1;cases h2;exact ⟨a,b,rfl,h1.1,h1.2,rfl⟩
 ·cases h
def aXL:Summ:={ T:=Nat × Bool,run:=Qf Tb,enc:=Id }
def aKP:Summ:={ T:=Nat × Bool,run:=Qf Tc,enc:=Id }
theorem aTo (a b:List Int):bB prog Tryz.f89 z8 Qc [W8 a,W8 b]=(Ie.run [W8 a,W8 b,.s (.clo 136 [] [])]).bind λ t=>some (Id t):=by kernel_rfl
theorem aTp (a b:List Int):bB prog Tryz.f92 z8 Qc [W8 a,W8 b]=(Ie.run [W8 a,W8 b,.s (.clo 137 [] [])]).bind λ t=>some (Id t):=by kernel_rfl
theorem NT {a b:List Int} (ha:jO a=true) (hb:jO b=true):Ie.run [W8 a,W8 b,.s (.clo 136 [] [])]=some (Tb a b):=by
 show cond (jO a && jO b) _ none=_;rw [ha,hb]; rfl
theorem NU {a b:List Int} (ha:jO a=true) (hb:jO b=true):Ie.run [W8 a,W8 b,.s (.clo 137 [] [])]=some (Tc a b):=by
 show cond (jO a && jO b) _ none=_;rw [ha,hb]; rfl
theorem Td:CallOk prog 89 aXL:=by
 refine jP (g:=z8) (fu:=λ _=>Qc) gG Γ_addsub Tryz.func89 (by kernel_rfl) ?_;intro args t ht;obtain ⟨a,b,rfl,ha,hb,rfl⟩:=Dr ht;rw [aTo,NT ha hb]; rfl
theorem NV:CallOk prog 92 aKP:=by
 refine jP (g:=z8) (fu:=λ _=>Qc) gG Γ_addsub Tryz.func92 (by kernel_rfl) ?_;intro args t ht;obtain ⟨a,b,rfl,ha,hb,rfl⟩:=Dr ht;rw [aTp,NU ha hb]; rfl
def CC:Cg:=⟨⟨dD [],[],dS⟩,[(3,[2,3,4,5],[4])]⟩
def aDC:List Int->List Int->Option AV
 | a :: x,b :: y=>cond (decide (a < b)) (some (.int .i64 (-1))) (cond (decide (b < a)) (some (.int .i64 1)) (aDC x y))
 | _,_=>some (.int .i64 0)
theorem aTq (a0 a1 a2 a3 a4 a5 a6 a7 b0 b1 b2 b3 b4 b5 b6 b7:Int):bB prog Tryz.f91 CC Qc [W8 [a0,a1,a2,a3,a4,a5,a6,a7],W8 [b0,b1,b2,b3,b4,b5,b6,b7]]=aDC [a7,a6,a5,a4,a3,a2,a1,a0] [b7,b6,b5,b4,b3,b2,b1,b0]:=by kernel_rfl
theorem aXM (n:Int):bB prog Tryz.f105 CC Qc [.int .u64 n]=some (W8 [n,0,0,0,0,0,0,0]):=by kernel_rfl
def qS (x y:Nat):Int:=cond (decide (x < y)) (-1) (cond (decide (y < x)) 1 0)
def gD:List Int->Nat->Nat
 | [],s=>s
 | x :: r,s=>gD r (x.toNat+18446744073709551616*s)
theorem aKQ:∀ (x y:List Int),qR x=true->qR y=true->x.length=y.length->∀ s,aDC x y=some (.int .i64 (qS (gD x s) (gD y s))):=by
 have key:∀ (x y:List Int),qR x=true->qR y=true->x.length=y.length->∀ s t,s < t->gD x s < gD y t:=by
  intro x
  induction x with
  | nil=>intro y _ _ hl s t h; cases y with
   | nil=>simpa [gD] using h
   | cons _ _=>simp at hl
  | cons a x ih=>
   intro y hx hy hl s t h;cases y with
   | nil=>simp at hl
   | cons b y=>
    simp only [qR,aX,bG] at hx hy;simp only [gD];exact ih y hx.2 hy.2 (by simpa using hl) _ _ (by omega)
 intro x
 induction x with
 | nil=>intro y _ _ hl s; cases y with
  | nil=>simp [aDC,gD,qS]
  | cons _ _=>simp at hl
 | cons a x ih=>
  intro y hx hy hl s;cases y with
  | nil=>simp at hl
  | cons b y=>
   simp only [qR,aX,bG] at hx hy;simp only [aDC,gD];have hl':x.length=y.length:=by simpa using hl
   by_cases h1:a < b
   ·have:=key x y hx.2 hy.2 hl' (a.toNat+18446744073709551616*s) (b.toNat+18446744073709551616*s) (by omega);simp [h1,qS,this]
   ·by_cases h2:b < a
    ·have:=key y x hy.2 hx.2 hl'.symm (b.toNat+18446744073709551616*s) (a.toNat+18446744073709551616*s) (by omega);have h3:¬ gD x (a.toNat+18446744073709551616*s) < gD y (b.toNat+18446744073709551616*s):=by omega
     simp [h1,h2,qS,this,h3]
    ·have:a=b:=by omega
     subst this;simp only [h1,oE,aD];exact ih y hx.2 hy.2 hl' _
theorem Ig (a0 a1 a2 a3 a4 a5 a6 a7:Int):gD [a7,a6,a5,a4,a3,a2,a1,a0] 0=val [a0,a1,a2,a3,a4,a5,a6,a7]:=by
 simp [gD,val]
theorem NW {a0 a1 a2 a3 a4 a5 a6 a7:Int} (h:qR [a0,a1,a2,a3,a4,a5,a6,a7]=true):qR [a7,a6,a5,a4,a3,a2,a1,a0]=true:=by
 simp only [qR,aX,bG,Fo] at h ⊢;simp [h]
def aTr:Summ:={ T:=Int,run:=Qf λ a b=>qS (val a) (val b),enc:=λ t=>.int .i64 t }
theorem aDD:CallOk prog 91 aTr:=by
 refine jP (g:=CC) (fu:=λ _=>Qc) gG aK Tryz.func91 (by kernel_rfl) ?_;intro args t ht;obtain ⟨a,b,rfl,ha,hb,rfl⟩:=Dr ht;have ha':=tC ha;have hb':=tC hb;obtain ⟨a0,a1,a2,a3,a4,a5,a6,a7,rfl⟩:=wC ha;obtain ⟨b0,b1,b2,b3,b4,b5,b6,b7,rfl⟩:=wC hb;rw [aTq,aKQ _ _ (NW ha') (NW hb') rfl 0,Ig,Ig];rfl
def sOf:Summ where
 T:=Int
 run:=λ
  | [.c (.s (.pl (.int .u64 n)))]=>some n
  | _=>none
 enc:=λ n=>W8 [n,0,0,0,0,0,0,0]
theorem WW:CallOk prog 105 sOf:=by
 refine jP (g:=CC) (fu:=λ _=>Qc) gG aK Tryz.func105 (by kernel_rfl) ?_;intro args t ht;simp only [sOf] at ht;split at ht
 ·cases ht;exact aXM _
 ·cases ht
abbrev inB (i:Int):Bool:=decide (0 <= i64.wrap (i.tdiv 64) /\ i64.wrap (i.tdiv 64) < ((8:Nat):Int))
abbrev Ih (i:Int):Nat:=0+(i64.wrap (i.tdiv 64)).toNat
theorem aTt (a:List Int) (i:Int):bB prog Tryz.f90 CC Qc [W8 a,.int .i64 i] =
  cond (decide (i < 0) || decide (512 <= i)) (some (.int .u64 0)) (cond (inB i) (cond (decide (i.tmod 64 < 0)) none (some (.int .u64 (d8 .u64 (eK .u64 (a.getD (Ih i) 0) (i.tmod 64)) 1)))) none):=by kernel_rfl
def mI (n:Nat) (i:Int):Nat:=cond (decide (i < 0)) 0 (n / 2 ^ i.toNat%2)
def Ii:Summ where
 T:=Nat
 run:=λ
  | [.c (.s (.pl (.agg (.ints .u64 a) 8))),.c (.s (.pl (.int .i64 i)))]=>cond (jO a) (some (mI (val a) i)) none
  | _=>none
 enc:=λ n=>.int .u64 n
theorem Qg (j:Nat) (h:j < 512):inB j=true /\ Ih j=j / 64 /\ (j:Int).tmod 64=((j%64:Nat):Int):=by
 have e1:(j:Int).tdiv 64=((j / 64:Nat):Int):=by rw [rF (by omega)]; rfl
 have e2:(j:Int).tmod 64=((j%64:Nat):Int):=by rw [lM (by omega)]; rfl
 have e3:i64.wrap ((j:Int).tdiv 64)=((j / 64:Nat):Int):=by rw [e1,bY (by omega) (by omega)]
 refine ⟨?_,?_,e2⟩
 ·simp only [inB,e3,bG]; omega
 ·simp only [Ih,e3]; omega
theorem Te (q j:Nat) (h:64*q <= j):18446744073709551616 ^ q <= 2 ^ j:=by
 rw [CB]; exact iK (by omega) h
theorem NX:CallOk prog 90 Ii:=by
 refine jP (g:=CC) (fu:=λ _=>Qc) gG aK Tryz.func90 (by kernel_rfl) ?_;intro args t ht;simp only [Ii] at ht;split at ht
 ·rename_i a i;obtain ⟨ha,h2⟩:=aY ht;cases h2;refine (aTt a i).trans ?_;by_cases h0:i < 0
  ·simp [h0,mI,Ii]
  ·obtain ⟨j,rfl⟩:=b9 (by omega:0 <= i);by_cases h1:512 <= (j:Int)
   ·have hz:val a / 2 ^ j=0:=by
     refine jJ (cU (xP ha) ?_);rw [pI];exact Te 8 j (by omega)
    simp [h1,mI,Ii,hz]
   ·obtain ⟨g1,g2,g3⟩:=Qg j (by omega);have hneg:¬ (((j%64:Nat):Int) < 0):=by omega
    have eb:d8 .u64 (eK .u64 (a.getD (j / 64) 0) ((j%64:Nat):Int)) 1=((val a / 2 ^ j%2:Nat):Int):=by
     rw [<-nL ha,wD 8 (j / 64) _ (by omega),mX _ _ (bK _ (by omega)),aKK,aKM _ _ _ (bK _ (by omega)),nL ha]
     ·rw [show 64*(j / 64)+j%64=j by omega]
     ·exact iI (pQ _ _) (bK _ (by omega))
    simp only [g1,g2,g3,h0,h1,hneg,oE,Bool.or_self,aD,aB,eb];show some (AV.int .u64 _)=some (AV.int .u64 ((mI (val a) j:Nat):Int));simp only [mI,h0,oE,aD,bE]
 ·cases ht
def tW:TypeId:=Tryz.f105.resultTypes.getD 0 0
def pJ:Cg:=⟨⟨dD [(90,Ii)],[],dS⟩,[(6,[1,2,4,5,14],[4,5])]⟩
theorem Γ_shift:∀ f A,pJ.c.Γ f=some A->CallOk prog f A:=aA NX aK
abbrev Cd:List Nat:=[1,1,1,0,1,2]
abbrev gH:List Int:=[0,0,0,0,0,0,0,0]
def aDE (a o:List Int) (sh i:Int):St :=
 {tm:=[(1,.int .i64 sh),(2,.s (.ptr 0 0 8)),(4,.s (.ptr 1 0 8)),(5,.s (.ptr 2 0 8)),(14,.int .i64 i)],
  hp:=[(0,⟨tW,8,.t (.ints .u64 a)⟩),(1,⟨tW,8,.t (.ints .u64 gH)⟩),(2,⟨tW,8,.t (.ints .u64 o)⟩)],nx:=3,sz:=34 }
def aTu (o:List Int):St :=
 {tm:=[(4,.s (.ptr 0 0 8)),(5,.s (.ptr 1 0 8))],hp:=[(0,⟨tW,8,.t (.ints .u64 gH)⟩),(1,⟨tW,8,.t (.ints .u64 o)⟩)],nx:=2,sz:=34 }
theorem aDF (fu:Nat) (a:List Int) (sh:Int):bB prog Tryz.f133 pJ fu [W8 a,.int .i64 sh] =
  cond (decide (512 <= sh) || decide (sh <= -512)) (some (W8 gH)) (DE prog pJ fu Tryz.f133 Cd (F5 prog pJ fu Tryz.f133 Cd) fu (some (aDE a gH sh 0))):=by kernel_rfl
theorem Ds (fu:Nat) (o:List Int):F5 prog pJ fu Tryz.f133 Cd (.exit 0) (aTu o)=some (W8 o):=by kernel_rfl
theorem CD (fu:Nat) (a o:List Int) (sh i:Int) (G:Option St->Option AV) (H:Ex->Option St->Option AV):VU prog pJ fu Tryz.f133 Cd G H (aDE a o sh i) =
  cond (decide (i < 512)) ((Ii.run [W8 a,.int .i64 (i64.wrap (i - sh))]).bind λ t:Nat=>
   cond (decide ((t:Int)=1)) (cond (inB i) (cond (decide (i.tmod 64 < 0)) none (cond (inB i)
    (G (some (aDE a (o.set (Ih i) (Dx .u64 (o.getD (Ih i) 0) (j8 .u64 1 (i.tmod 64)))) sh (i64.wrap (i+1))))) none)) none)
    (G (some (aDE a o sh (i64.wrap (i+1)))))) (H (.exit 0) (some (aTu o))):=by kernel_rfl
theorem LJ (T j:Nat):T%2 ^ (j+1)=T%2 ^ j+2 ^ j*(T / 2 ^ j%2):=by
 rw [bM,uU]
theorem aDG {a:List Int} (ha:jO a=true) (i:Int):Ii.run [W8 a,.int .i64 i]=some (mI (val a) i):=by
 show cond (jO a) _ none=_;rw [ha]; rfl
theorem ZX (T j:Nat) (hj:j < 512) (hb:T / 2 ^ j%2=1) :
  (cQ 8 (T%2 ^ j)).set (Ih j) (Dx .u64 ((cQ 8 (T%2 ^ j)).getD (Ih j) 0) (j8 .u64 1 ((j:Int).tmod 64)))=cQ 8 (T%2 ^ (j+1)):=by
 obtain ⟨_,g2,g3⟩:=Qg j hj;have hq:j / 64 < 8:=by omega
 have hr:j%64 < 64:=bK _ (by omega);have hx:T%2 ^ j / 18446744073709551616 ^ (j / 64) < 2 ^ (j%64):=by
  rw [BU (gS (by omega)),CB,<-dM,show j%64+64*(j / 64)=j by omega];exact bK _ (gS (by omega))
 have hr2:2 ^ (j%64) <= 2 ^ 63:=iK (by omega) (by omega);have hp:(2:Nat) ^ 63=9223372036854775808:=by decide
 rw [g2,g3,wD 8 _ _ hq,show (1:Int)=((1:Nat):Int) from rfl,Do 1 _ hr,pV];rw [aV (by omega:T%2 ^ j / 18446744073709551616 ^ (j / 64) < 18446744073709551616),aV (by omega:2 ^ (j%64) < 18446744073709551616)];rw [NR _ _ (by omega) (by omega),aDz _ _ hx,aKL 8 _ _ _ hq (by omega)];rw [LJ,hb,iY,CB,<-dM,show 64*(j / 64)+j%64=j by omega]
theorem Ij {a:List Int} {sh:Int} {T fu:Nat} {K:Ex->St->Option AV} (ha:jO a=true) (h1:-512 < sh) (h2:sh < 512) (hT:∀ j:Nat,j < 512->mI (val a) ((j:Int) - sh)=T / 2 ^ j%2) :
  ∀ (m j n:Nat),j+m=512->m < n->DE prog pJ fu Tryz.f133 Cd K n (some (aDE a (cQ 8 (T%2 ^ j)) sh j))=K (.exit 0) (aTu (cQ 8 T)):=by
 intro m
 induction m with
 | zero=>
  intro j n hj hn;obtain ⟨n,rfl⟩:=aP (by omega:n ≠ 0);have h8:=HR 8 T;rw [CB] at h8;have e:cQ 8 (T%2 ^ j)=cQ 8 T:=by rw [show j=64*8 by omega]; exact h8
  have hge:¬ (j:Int) < 512:=by omega
  rw [mD,CD,e];simp only [hge,oE,aD];rfl
 | succ m ih=>
  intro j n hj hn;obtain ⟨n,rfl⟩:=aP (by omega:n ≠ 0);have hlt:(j:Int) < 512:=by omega
  obtain ⟨g1,g2,g3⟩:=Qg j (by omega);have hneg:¬ ((j:Int).tmod 64 < 0):=by rw [g3]; omega
  have e1:i64.wrap ((j:Int)+1)=((j+1:Nat):Int):=by rw [bY (by omega) (by omega)]; rfl
  rw [mD,CD,bY (by omega) (by omega),aDG ha,hT j (by omega)];simp only [hlt,oF,aB,aC,g1,hneg,oE,aD,e1];by_cases hb:T / 2 ^ j%2=1
  ·rw [ZX T j (by omega) hb,hb];exact ih (j+1) n (by omega) (by omega)
  ·have h0:T / 2 ^ j%2=0:=by omega
   have e2:T%2 ^ j=T%2 ^ (j+1):=by rw [LJ,h0]; simp
   rw [h0,e2];exact ih (j+1) n (by omega) (by omega)
def xQ (n:Nat) (sh:Int):Nat:=cond (decide (512 <= sh) || decide (sh <= -512)) 0 (cond (decide (sh < 0)) (n / 2 ^ (-sh).toNat) (n*2 ^ sh.toNat))
def NY:Summ where
 T:=Nat
 run:=λ
  | [.c (.s (.pl (.agg (.ints .u64 a) 8))),.c (.s (.pl (.int .i64 i)))]=>cond (jO a) (some (xQ (val a) i)) none
  | _=>none
 enc:=λ n=>W8 (cQ 8 n)
theorem Qh (n s j:Nat):n*2 ^ s / 2 ^ j%2=if j < s then 0 else n / 2 ^ (j - s)%2:=by
 split
 ·rename_i h;obtain ⟨k,rfl⟩:∃ k,s=j+1+k:=⟨s - j - 1,by omega⟩;rw [show n*2 ^ (j+1+k)=n*2 ^ k*2*2 ^ j by rw [dM,bM]; ac_rfl,Nat.mul_div_cancel _ (gS (by omega))];omega
 ·rename_i h;obtain ⟨k,rfl⟩:∃ k,j=s+k:=⟨j - s,by omega⟩;rw [dM,cG (2 ^ s) (2 ^ k),Nat.mul_div_mul_right _ _ (gS (by omega)),show s+k - s=k by omega]
theorem Ik:CallOk prog 133 NY:=by
 refine jP (g:=pJ) (fu:=λ _=>600) gG Γ_shift Tryz.func133 (by kernel_rfl) ?_;intro args t ht;simp only [NY] at ht;split at ht
 ·rename_i a sh;obtain ⟨ha,h2⟩:=aY ht;cases h2;refine (aDF 600 a sh).trans ?_;show _=some (W8 (cQ 8 (xQ (val a) sh)));unfold xQ;cases hc:decide (512 <= sh) || decide (sh <= -512)
  ·simp only [Cv,decide_eq_false_iff_not] at hc;simp only [aD];by_cases hneg:sh < 0
   ·obtain ⟨s,rfl⟩:∃ s:Nat,sh=-(s:Int):=⟨(-sh).toNat,by omega⟩;have:=Ij (a:=a) (sh:=-(s:Int)) (T:=val a / 2 ^ s) (fu:=600) (K:=F5 prog pJ 600 Tryz.f133 Cd) ha (by omega) (by omega) (λ j hj=>by
     unfold mI;rw [show (decide ((j:Int) - -(s:Int) < 0))=false by simp; omega,aD,show ((j:Int) - -(s:Int)).toNat=s+j by omega,dM,gR]) 512 0 600 (by omega) (by omega)
    rw [jL,uV] at this;refine (this.trans (Ds 600 _)).trans ?_;simp only [hneg,oF,aB];rw [show (- -(s:Int)).toNat=s by omega]
   ·obtain ⟨s,rfl⟩:=b9 (by omega:0 <= sh);have:=Ij (a:=a) (sh:=(s:Int)) (T:=val a*2 ^ s) (fu:=600) (K:=F5 prog pJ 600 Tryz.f133 Cd) ha (by omega) (by omega) (λ j hj=>by
     unfold mI;rw [Qh];by_cases hjs:j < s
     ·rw [show (decide ((j:Int) - (s:Int) < 0))=true by simp; omega,aB,aT hjs]
     ·rw [show (decide ((j:Int) - (s:Int) < 0))=false by simp; omega,aD,aW hjs,show ((j:Int) - (s:Int)).toNat=j - s by omega]) 512 0 600 (by omega) (by omega)
    rw [jL,uV] at this;refine (this.trans (Ds 600 _)).trans ?_;simp only [hneg,oE,aD];rw [bE]
  ·simp only [aB];rw [show cQ 8 0=gH by decide]
 ·cases ht
abbrev Qi (x:Int):Int:=u64.wrap x
def Tf (x y:Int):Int × Int :=
 let x0:=d8 .u64 x 4294967295;let x1:=eK .u64 x 32;let y0:=d8 .u64 y 4294967295;let y1:=eK .u64 y 32;let t:=Qi (Qi (x1*y0)+eK .u64 (Qi (x0*y0)) 32);let u:=Qi (d8 .u64 t 4294967295+Qi (x0*y1))
 (Qi (Qi (Qi (x1*y1)+eK .u64 t 32)+eK .u64 u 32),Qi (x*y))
theorem aDH (x y:Int):bB prog Tryz.f160 CC Qc [.int .u64 x,.int .u64 y]=some (ZU (Tf x y)):=by kernel_rfl
theorem ZY (p q r s:Nat) (hq:q <= 18446744065119617025) (hr:r <= 18446744065119617025) (hs:s <= 18446744065119617025) :
  (p*18446744073709551616+(q+r)*4294967296+s) / 18446744073709551616=p+(q+s / 4294967296) / 4294967296+((q+s / 4294967296)%4294967296+r) / 4294967296:=by omega
theorem aDI (x y:Nat) (hx:x < 18446744073709551616) (hy:y < 18446744073709551616):Tf x y=(((x*y / 18446744073709551616:Nat):Int),((x*y%18446744073709551616:Nat):Int)):=by
 have hx1:x / 4294967296 <= 4294967295:=by omega
 have hx0:x%4294967296 <= 4294967295:=by omega
 have hy1:y / 4294967296 <= 4294967295:=by omega
 have hy0:y%4294967296 <= 4294967295:=by omega
 have e32:(2:Nat) ^ 32=4294967296:=by decide
 have s32:∀ z:Nat,eK .u64 (z:Int) 32=((z / 4294967296:Nat):Int):=λ z=>by
  rw [show (32:Int)=((32:Nat):Int) from rfl,mX z 32 (by omega),e32]
 have hp:=iJ hx1 hy1;have hq:=iJ hx1 hy0;have hr:=iJ hx0 hy1;have hs:=iJ hx0 hy0;have hxy:x*y=(x / 4294967296)*(y / 4294967296)*18446744073709551616+((x / 4294967296)*(y%4294967296)+(x%4294967296)*(y / 4294967296))*4294967296+(x%4294967296)*(y%4294967296):=by
  have e1:x=(x / 4294967296)*4294967296+x%4294967296:=by omega
  have e2:y=(y / 4294967296)*4294967296+y%4294967296:=by omega
  generalize x / 4294967296=a at *;generalize x%4294967296=b at *;generalize y / 4294967296=c at *;generalize y%4294967296=d at *;subst e1; subst e2;grind
 unfold Tf;simp only [WU x hx,WU y hy,s32,Qi,<-oA,fN];generalize (x / 4294967296)*(y / 4294967296)=p at *;generalize (x / 4294967296)*(y%4294967296)=q at *;generalize (x%4294967296)*(y / 4294967296)=r at *;generalize (x%4294967296)*(y%4294967296)=s at *;generalize x*y=xy at *;rw [aV (by omega:q < 18446744073709551616),aV (by omega:s < 18446744073709551616),aV (by omega:r < 18446744073709551616),aV (by omega:p < 18446744073709551616)];simp only [s32,<-fZ,fN];rw [aV (by omega:q+s / 4294967296 < 18446744073709551616),WU _ (by omega)];simp only [s32,<-fZ,fN];rw [aV (by omega:(q+s / 4294967296)%4294967296+r < 18446744073709551616)];congr 2;rw [hxy,ZY p q r s (by omega) (by omega) (by omega)];omega
def hO (x:Int):Bool:=decide (0 <= x /\ x < 18446744073709551616)
def qT:Summ where
 T:=Int × Int
 run:=λ
  | [.c (.s (.pl (.int .u64 x))),.c (.s (.pl (.int .u64 y)))]=>cond (hO x && hO y) (some (x*y / 18446744073709551616,x*y%18446744073709551616)) none
  | _=>none
 enc:=ZU
theorem Qj:CallOk prog 160 qT:=by
 refine jP (g:=CC) (fu:=λ _=>Qc) gG aK Tryz.func160 (by kernel_rfl) ?_;intro args t ht;simp only [qT] at ht;split at ht
 ·rename_i x y;obtain ⟨h1,h2⟩:=aY ht;simp only [hO,aX,bG] at h1;cases h2;obtain ⟨x,rfl⟩:=b9 h1.1.1;obtain ⟨y,rfl⟩:=b9 h1.2.1;rw [aDH,aDI x y (by omega) (by omega)];rfl
 ·cases ht
def Tg {β:Type} (M A:FA (Int × Int)) (a:Int):List Int->List Int->Int->Bool->List Int->(List Int->Int->Bool->Option β)->Option β
 | b :: bs,z :: zs,c,ok,acc,K=>(M [.int .u64 a,.int .u64 b]).bind λ t=>(A [.int .u64 t.2,.int .u64 c,.int .u64 0]).bind λ u=>(A [.int .u64 z,.int .u64 u.1,.int .u64 0]).bind λ v=>
   Tg M A a bs zs (Qi (Qi (t.1+u.2)+v.2)) ok (acc++[v.1]) K
 | b :: bs,[],c,ok,acc,K=>(M [.int .u64 a,.int .u64 b]).bind λ t=>Tg M A a bs [] 0 (((ok && decide (t.1=0)) && decide (t.2=0)) && decide (c=0)) acc K
 | [],zs,c,ok,acc,K=>K (acc++zs) c ok
def aDJ {β:Type} (M A:FA (Int × Int)):List Int->List Int->List Int->List Int->Bool->(List Int->Bool->Option β)->Option β
 | a :: x,y,d,zs,ok,K=>Tg M A a y zs 0 ok [] λ zs' c ok'=>match zs' with
  | z :: r=>aDJ M A x y (d++[z]) r (ok' && decide (c=0)) K
  | []=>none
 | [],y,d,zs,ok,K=>K (d++zs) ok
def aDK:Cg:=⟨⟨dD [(160,qT),(136,jU)],[],dS⟩,[(5,[3,4,5,6,7,16,17],[4,5,6,7]),(9,[3,4,5,6,7,8,9,10,16,17,21,22],[3,4,5,6,7,10,16,17])]⟩
theorem Γ_mul:∀ f A,aDK.c.Γ f=some A->CallOk prog f A:=aA Qj (aA Ic aK)
theorem aTv (a0 a1 a2 a3 a4 a5 a6 a7 b0 b1 b2 b3 b4 b5 b6 b7:Int):bB prog Tryz.f163 aDK 20 [W8 [a0,a1,a2,a3,a4,a5,a6,a7],W8 [b0,b1,b2,b3,b4,b5,b6,b7]]
 =aDJ qT.run jU.run [a0,a1,a2,a3,a4,a5,a6,a7] [b0,b1,b2,b3,b4,b5,b6,b7] [] gH true (λ l ok=>some (.tup [.s (.pl (.agg (.ints .u64 l) 8)),.s (.pl (.bool ok))])):=by kernel_rfl
theorem E8 (x y:Nat) (hx:x < 18446744073709551616) (hy:y < 18446744073709551616):qT.run [.int .u64 x,.int .u64 y]=some (((x*y / 18446744073709551616:Nat):Int),((x*y%18446744073709551616:Nat):Int)):=by
 have h1:hO (x:Int)=true:=by simp only [hO,bG]; omega
 have h2:hO (y:Int)=true:=by simp only [hO,bG]; omega
 simp only [qT,h1,h2,Fm,aB];have e:((x:Int)*y / 18446744073709551616,(x:Int)*y%18446744073709551616)=(((x*y / 18446744073709551616:Nat):Int),((x*y%18446744073709551616:Nat):Int)):=by
  rw [<-oA];generalize x*y=p;exact BZ (by show (p:Int) / _=_; omega) (by show (p:Int)%_=_; omega)
 exact dQ some e
theorem ZZ (x y c:Nat) (hx:x < 18446744073709551616) (hy:y < 18446744073709551616) (hc:c <= 1):jU.run [.int .u64 x,.int .u64 y,.int .u64 c]=some ((((x+y+c)%18446744073709551616:Nat):Int),(((x+y+c) / 18446744073709551616:Nat):Int)):=by
 have h1:uC x y c=true:=by simp only [uC,aX,bG]; omega
 simp only [jU,h1,aB];have e:(((x:Int)+y+c)%18446744073709551616,((x:Int)+y+c) / 18446744073709551616)=((((x+y+c)%18446744073709551616:Nat):Int),(((x+y+c) / 18446744073709551616:Nat):Int)):=BZ (by show ((x:Int)+y+c)%_=_; omega) (by show ((x:Int)+y+c) / _=_; omega);exact dQ some e
theorem GB (x y:Nat) (hx:x < 18446744073709551616) (hy:y < 18446744073709551616):jU.run [.int .u64 x,.int .u64 y,.int .u64 0]=some ((((x+y)%18446744073709551616:Nat):Int),(((x+y) / 18446744073709551616:Nat):Int)):=ZZ x y 0 hx hy (by omega)
theorem aDL {γ:Type} (M D:FA (Int × Int)) (hM:∀ x y:Nat,x < 18446744073709551616->y < 18446744073709551616->M [.int .u64 x,.int .u64 y]=some (((x*y / 18446744073709551616:Nat):Int),((x*y%18446744073709551616:Nat):Int)))
  (hD:∀ x y:Nat,x < 18446744073709551616->y < 18446744073709551616->D [.int .u64 x,.int .u64 y,.int .u64 0]=some ((((x+y)%18446744073709551616:Nat):Int),(((x+y) / 18446744073709551616:Nat):Int))) (A b C z:Nat) (hA:A < 18446744073709551616) (hb:b < 18446744073709551616) (hC:C < 18446744073709551616) (hz:z < 18446744073709551616) (F:Int->Int->Option γ) :
  ((M [.int .u64 A,.int .u64 b]).bind λ t:Int × Int=>(D [.int .u64 t.2,.int .u64 C,.int .u64 0]).bind λ u:Int × Int=>(D [.int .u64 z,.int .u64 u.1,.int .u64 0]).bind λ v:Int × Int=>F (Qi (Qi (t.1+u.2)+v.2)) v.1)
  =F (((A*b+C+z) / 18446744073709551616:Nat):Int) (((A*b+C+z)%18446744073709551616:Nat):Int):=by
 have hab:A*b <= 18446744073709551615*18446744073709551615:=iJ (by omega) (by omega);rw [hM A b hA hb];generalize A*b=p at *;have hhi:p / 18446744073709551616 < 18446744073709551616:=by omega
 have hlo:p%18446744073709551616 < 18446744073709551616:=bK _ (by omega);have key:p=p / 18446744073709551616*18446744073709551616+p%18446744073709551616:=by omega
 generalize p / 18446744073709551616=hi at *;generalize p%18446744073709551616=lo at *;rw [aC,hD lo C hlo hC,aC];have hu1:(lo+C)%18446744073709551616 < 18446744073709551616:=bK _ (by omega);have keyu:lo+C=(lo+C) / 18446744073709551616*18446744073709551616+(lo+C)%18446744073709551616:=by omega
 generalize (lo+C) / 18446744073709551616=u2 at *;generalize (lo+C)%18446744073709551616=u1 at *;rw [hD z u1 hz hu1,aC];have keyv:z+u1=(z+u1) / 18446744073709551616*18446744073709551616+(z+u1)%18446744073709551616:=by omega
 have hv1:(z+u1)%18446744073709551616 < 18446744073709551616:=bK _ (by omega);generalize (z+u1) / 18446744073709551616=v2 at *;generalize (z+u1)%18446744073709551616=v1 at *;have e:Qi (Qi ((hi:Int)+(u2:Int))+(v2:Int))=(((p+C+z) / 18446744073709551616:Nat):Int):=by
  unfold Qi;rw [<-fZ,fN,<-fZ,fN];congr 1;omega
 have e2:v1=(p+C+z)%18446744073709551616:=by omega
 rw [<-e2];exact dQ (λ q=>F q (v1:Int)) e
theorem aKR {β:Type} {A:Nat} (hA:A < 18446744073709551616):∀ (bs zs:List Int) (C:Nat) (ok:Bool) (acc:List Int) (K:List Int->Int->Bool->Option β),qR bs=true->qR zs=true->zs.length <= bs.length->C < 18446744073709551616 ->
  ∃ (c':Int) (ok':Bool),Tg qT.run jU.run A bs zs C ok acc K=K (acc++cQ zs.length (val zs+A*val bs+C)) c' ok' /\ (ok' && decide (c'=0))=(ok && decide (val zs+A*val bs+C < 18446744073709551616 ^ zs.length)):=by
 intro bs
 induction bs with
 | nil=>
  intro zs C ok acc K hb hz hl hC;cases zs with
  | nil=>
   refine ⟨C,ok,by simp [Tg,cQ],?_⟩;have d:decide ((C:Int)=0)=decide (val []+A*val []+C < 18446744073709551616 ^ ([]:List Int).length):=j7.2 (by simp [val]);rw [d]
  | cons _ _=>simp at hl
 | cons b bs ih=>
  intro zs C ok acc K hb hz hl hC;simp only [qR,aX,bG] at hb;obtain ⟨b,rfl⟩:=b9 hb.1.1;have hbl:b < 18446744073709551616:=by omega
  have hab:A*b <= 18446744073709551615*18446744073709551615:=iJ (by omega) (by omega);have hdist:A*(b+18446744073709551616*val bs)=A*b+18446744073709551616*(A*val bs):=by
   rw [uW]; congr 1; rw [<-d9,cG A,d9]
  cases zs with
  | nil=>
   obtain ⟨c',ok',h1,h2⟩:=ih [] 0 (((ok && decide (((A*b / 18446744073709551616:Nat):Int)=0)) && decide (((A*b%18446744073709551616:Nat):Int)=0)) && decide ((C:Int)=0)) acc K hb.2 rfl (by simp) (by omega);refine ⟨c',ok',?_,?_⟩
   ·simp only [Tg,E8 A b hA hbl,aC];exact h1
   ·have d1:decide (val []+A*val bs+0 < 18446744073709551616 ^ ([]:List Int).length)=decide (A*val bs < 1):=j7.2 (by simp [val]);have d2:decide (val []+A*val ((b:Int) :: bs)+C < 18446744073709551616 ^ ([]:List Int).length)=decide (A*b+18446744073709551616*(A*val bs)+C < 1):=j7.2 (by
     simp only [val,PJ,jL,bE,hdist,bS])
    rw [h2,d1,d2];clear h1 h2 d1 d2 hdist ih;generalize A*b=p at *;generalize A*val bs=q at *;cases ok
    ·simp
    ·simp only [jX];rw [J6];simp only [aX,bG];omega
  | cons z zs=>
   simp only [qR,aX,bG] at hz;obtain ⟨z,rfl⟩:=b9 hz.1.1;have hzl:z < 18446744073709551616:=by omega
   have hl':zs.length <= bs.length:=by simpa using hl
   obtain ⟨c',ok',h1,h2⟩:=ih zs ((A*b+C+z) / 18446744073709551616) ok (acc++[(((A*b+C+z)%18446744073709551616:Nat):Int)]) K hb.2 hz.2 hl' (by omega);refine ⟨c',ok',?_,?_⟩
   ·refine (aDL qT.run jU.run E8 GB A b C z hA hbl hC hzl (λ c v=>Tg qT.run jU.run A bs zs c ok (acc++[v]) K)).trans (h1.trans ?_);simp only [val,fF,cQ,bE,hdist,lN,Hk];generalize A*b=p at *;generalize A*val bs=q at *;have f1:(z+18446744073709551616*val zs+(p+18446744073709551616*q)+C)%18446744073709551616=(p+C+z)%18446744073709551616:=by omega
    have f2:(z+18446744073709551616*val zs+(p+18446744073709551616*q)+C) / 18446744073709551616=val zs+q+(p+C+z) / 18446744073709551616:=by omega
    rw [f1,f2]
   ·have d:decide (val zs+A*val bs+(A*b+C+z) / 18446744073709551616 < 18446744073709551616 ^ zs.length)=decide (val ((z:Int) :: zs)+A*val ((b:Int) :: bs)+C < 18446744073709551616 ^ ((z:Int) :: zs).length):=j7.2 (by
     simp only [val,fF,bE,hdist,bM];generalize A*b=p at *;generalize A*val bs=q at *;generalize 18446744073709551616 ^ zs.length=m at *;omega)
    rw [h2,d]
theorem Za {k m n:Nat} (h:m%18446744073709551616 ^ k=n%18446744073709551616 ^ k):cQ k m=cQ k n:=by
 rw [<-HR k m,<-HR k n,h]
theorem aKS {β:Type} {y:List Int} (hy:qR y=true):∀ (x d zs:List Int) (ok:Bool) (K:List Int->Bool->Option β),qR x=true->qR zs=true->zs.length=x.length->zs.length <= y.length ->
  aDJ qT.run jU.run x y d zs ok K=K (d++cQ zs.length (val zs+val x*val y)) (ok && decide (val zs+val x*val y < 18446744073709551616 ^ zs.length)):=by
 intro x
 induction x with
 | nil=>
  intro d zs ok K hx hz hl hy';cases zs with
  | nil=>simp [aDJ,cQ,val]
  | cons _ _=>simp at hl
 | cons a x ih=>
  intro d zs ok K hx hz hl hy';cases zs with
  | nil=>simp at hl
  | cons z zs=>
   simp only [qR,aX,bG] at hx;obtain ⟨A,rfl⟩:=b9 hx.1.1;have hl':zs.length=x.length:=by simpa using hl
   simp only [fF] at hy';obtain ⟨c',ok',h1,h2⟩:=aKR (A:=A) (by omega) y (z :: zs) 0 ok [] (λ zs' c ok'=>match zs' with
    | z :: r=>aDJ qT.run jU.run x y (d++[z]) r (ok' && decide (c=0)) K
    | []=>none) hy hz (by simpa using hy') (by omega)
   refine h1.trans ?_;simp only [rI,fF,cQ,fH];simp only [fF,fH] at h2;rw [h2];have:=ih (d++[(((val (z :: zs)+A*val y)%18446744073709551616:Nat):Int)]) (cQ zs.length ((val (z :: zs)+A*val y) / 18446744073709551616)) (ok && decide (val (z :: zs)+A*val y < 18446744073709551616 ^ (zs.length+1))) K hx.2 (NP _ _) (by rw [tB]; exact hl') (by rw [tB]; omega);rw [this,tB,NQ];have hv:val ((A:Int) :: x)*val y=A*val y+18446744073709551616*(val x*val y):=by
    simp only [val,bE,gL,d9]
   rw [hv,<-sI];generalize val (z :: zs)+A*val y=N at *;generalize val x*val y=X at *;have f1:(N+18446744073709551616*X)%18446744073709551616=N%18446744073709551616:=by omega
   have f2:(N+18446744073709551616*X) / 18446744073709551616=N / 18446744073709551616+X:=by omega
   rw [f1,f2,lN,Hk];congr 1
   ·congr 2;exact Za (by simp)
   ·rw [Bool.and_assoc];congr 1;have e:18446744073709551616 ^ (z :: zs).length=18446744073709551616 ^ zs.length*18446744073709551616:=by rw [fF,bM]
    by_cases hN:N < 18446744073709551616 ^ (zs.length+1)
    ·have hN':N < 18446744073709551616 ^ zs.length*18446744073709551616:=hN;have h5:N / 18446744073709551616%18446744073709551616 ^ zs.length=N / 18446744073709551616:=aV (by omega);simp only [hN,oF,jX,h5];exact j7.2 (by rw [bM]; omega)
    ·have hN':¬ N < 18446744073709551616 ^ zs.length*18446744073709551616:=hN;have h3:¬ N+18446744073709551616*X < 18446744073709551616 ^ (zs.length+1):=by rw [bM]; omega
     simp only [hN,oE,pC,fF,h3]
def aKT (a b:List Int):Nat × Bool:=(val a*val b,decide (val a*val b < fK))
def aKU:Summ:={ T:=Nat × Bool,run:=Qf aKT,enc:=Id }
theorem aDM:CallOk prog 163 aKU:=by
 refine jP (g:=aDK) (fu:=λ _=>20) gG Γ_mul Tryz.func163 (by kernel_rfl) ?_;intro args t ht;obtain ⟨a,b,rfl,ha,hb,rfl⟩:=Dr ht;have key:=aKS (tC hb) a [] gH true (λ l ok=>some (AV.tup [.s (.pl (.agg (.ints .u64 l) 8)),.s (.pl (.bool ok))])) (tC ha) (by decide) (by rw [uA ha]; rfl) (by rw [uA hb]; simp);simp only [rI,jX,show val gH=0 by decide,bS,show gH.length=8 from rfl,<-pI] at key;have j9:∀ a b:List Int,(some (AV.tup [.s (.pl (.agg (.ints .u64 (cQ 8 (val a*val b))) 8)),.s (.pl (.bool (decide (val a*val b < fK))))]):Option AV)=some (aKU.enc (aKT a b)):=λ _ _=>rfl;rw [j9] at key;obtain ⟨a0,a1,a2,a3,a4,a5,a6,a7,rfl⟩:=wC ha;obtain ⟨b0,b1,b2,b3,b4,b5,b6,b7,rfl⟩:=wC hb;exact (aTv a0 a1 a2 a3 a4 a5 a6 a7 b0 b1 b2 b3 b4 b5 b6 b7).trans key
end
end Go.Eng
