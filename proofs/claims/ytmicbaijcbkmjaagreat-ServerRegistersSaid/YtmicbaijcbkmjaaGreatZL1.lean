import Derived.KernelRfl
import Derived.Test.YtmicbaijcbkmjaaGreatEngNums
namespace Go.Eng
open Go.IntKind (u64 i64 u8)
noncomputable section
set_option linter.all false
def val:List Int->Nat
 | []=>0
 | x :: r=>x.toNat+18446744073709551616*val r
def cQ:Nat->Nat->List Int
 | 0,_=>[]
 | k+1,n=>((n%18446744073709551616:Nat):Int) :: cQ k (n / 18446744073709551616)
def qN:List Int->Bool
 | []=>true
 | x :: r=>decide (0 <= x /\ x < 18446744073709551616) && qN r
def jO (a:List Int):Bool:=Nat.beq a.length 8 && qN a
def fK:Nat:=13407807929942597099574024998205846127479365820592393377723561443721764030073546976801874298166903427690031858186486050853753882811946569946433649006084096
theorem pM:fK=18446744073709551616 ^ 8:=by decide +kernel
theorem sZ (k n:Nat):(cQ k n).length=k:=by
 induction k generalizing n with
 | zero=>rfl
 | succ k ih=>simp [cQ,ih]
theorem NX (k n:Nat):qN (cQ k n)=true:=by
 induction k generalizing n with
 | zero=>rfl
 | succ k ih=>
  simp only [cQ,qN,ih,Fo,bG];omega
theorem fA (n:Nat):jO (cQ 8 n)=true:=by simp [jO,sZ,NX]
theorem NY (k n:Nat):val (cQ k n)=n%18446744073709551616 ^ k:=by
 induction k generalizing n with
 | zero=>simp [cQ,val,uV]
 | succ k ih=>
  simp only [cQ,val,ih,bE];rw [bM,cG (_ ^ k),uU]
theorem Wl:∀ a:List Int,qN a=true->cQ a.length (val a)=a:=by
 intro a
 induction a with
 | nil=>intro _; rfl
 | cons x r ih=>
  intro h;simp only [qN,aX,bG] at h;simp only [fF,cQ,val];have e1:(x.toNat+18446744073709551616*val r)%18446744073709551616=x.toNat:=by omega
  have e2:(x.toNat+18446744073709551616*val r) / 18446744073709551616=val r:=by omega
  rw [e1,e2,ih h.2];congr 1; omega
theorem To:∀ a:List Int,qN a=true->val a < 18446744073709551616 ^ a.length:=by
 intro a
 induction a with
 | nil=>intro _; simp [val]
 | cons x r ih=>
  intro h;simp only [qN,aX,bG] at h;have:=ih h.2;simp only [fF,val,bM];have h3:x.toNat < 18446744073709551616:=by omega
  have h4:(val r+1)*18446744073709551616 <= 18446744073709551616 ^ r.length*18446744073709551616:=pT _ this;omega
theorem uD {a:List Int} (h:jO a=true):a.length=8:=by
 simp only [jO,aX] at h; exact aS h.1
theorem tA {a:List Int} (h:jO a=true):qN a=true:=by
 simp only [jO,aX] at h; exact h.2
theorem nK {a:List Int} (h:jO a=true):cQ 8 (val a)=a:=by
 have:=Wl a (tA h);rwa [uD h] at this
theorem xP {a:List Int} (h:jO a=true):val a < fK:=by
 have:=To a (tA h);rw [uD h] at this;rw [pM]; exact this
theorem kM (n:Nat):val (cQ 8 n)=n%fK:=by rw [NY,pM]
theorem HK (k n:Nat):cQ k (n%18446744073709551616 ^ k)=cQ k n:=by
 have:=Wl (cQ k n) (NX k n);rw [sZ,NY] at this; exact this
theorem Qn (n:Nat):cQ 8 (n%fK)=cQ 8 n:=by rw [pM]; exact HK 8 n
theorem wF {a:List Int} (h:jO a=true):∃ a0 a1 a2 a3 a4 a5 a6 a7,a=[a0,a1,a2,a3,a4,a5,a6,a7]:=by
 have:=uD h
 match a,this with
 | [a0,a1,a2,a3,a4,a5,a6,a7],_=>exact ⟨a0,a1,a2,a3,a4,a5,a6,a7,rfl⟩
def Qo:List Int->List Int->Int->List Int × Int
 | a :: x,b :: y,c=>let r:=Qo x y ((a+b+c) / 18446744073709551616); ((a+b+c)%18446744073709551616 :: r.1,r.2)
 | _,_,c=>([],c)
theorem aKu:∀ (x y:List Int) (c:Nat),qN x=true->qN y=true->x.length=y.length->c <= 1 ->
  Qo x y c=(cQ x.length (val x+val y+c),(((val x+val y+c) / 18446744073709551616 ^ x.length:Nat):Int)):=by
 intro x
 induction x with
 | nil=>intro y c _ _ hl _; cases y <;> simp_all [Qo,cQ,val]
 | cons a x ih=>
  intro y c hx hy hl hc;cases y with
  | nil=>simp at hl
  | cons b y=>
   simp only [qN,aX,bG] at hx hy;simp only [fF,Hm] at hl;obtain ⟨A,rfl⟩:=b9 hx.1.1;obtain ⟨Bn,rfl⟩:=b9 hy.1.1;have e:((A:Int)+Bn+c) / 18446744073709551616=(((A+Bn+c) / 18446744073709551616:Nat):Int):=by omega
   have e2:((A:Int)+Bn+c)%18446744073709551616=(((A+Bn+c)%18446744073709551616:Nat):Int):=by omega
   simp only [Qo,e,e2];rw [ih y _ hx.2 hy.2 hl (by omega)];simp only [val,bE,cQ,fF];have f1:(A+18446744073709551616*val x+(Bn+18446744073709551616*val y)+c)%18446744073709551616=(A+Bn+c)%18446744073709551616:=by omega
   have f2:(A+18446744073709551616*val x+(Bn+18446744073709551616*val y)+c) / 18446744073709551616=val x+val y+(A+Bn+c) / 18446744073709551616:=by omega
   rw [f1,f2,bM,cG (_ ^ x.length),<-gR,f2]
def Qp:List Int->List Int->Int->List Int × Int
 | a :: x,b :: y,c=>let r:=Qp x y (cond (decide (a < b+c)) 1 0); ((a+18446744073709551616 - b - c)%18446744073709551616 :: r.1,r.2)
 | _,_,c=>([],c)
theorem aKv:∀ (x y:List Int) (c:Nat),qN x=true->qN y=true->x.length=y.length->c <= 1 ->
  Qp x y c=(cQ x.length (val x+18446744073709551616 ^ x.length - val y - c),cond (decide (val x < val y+c)) 1 0):=by
 intro x
 induction x with
 | nil=>
  intro y c _ _ hl hc;cases y with
  | nil=>
   have:c=0 ∨ c=1:=by omega
   rcases this with rfl | rfl <;> simp [Qp,cQ,val]
  | cons _ _=>simp at hl
 | cons a x ih=>
  intro y c hx hy hl hc;cases y with
  | nil=>simp at hl
  | cons b y=>
   have hvy:=To y (by simp only [qN,aX] at hy; exact hy.2);simp only [qN,aX,bG] at hx hy;simp only [fF,Hm] at hl;rw [<-hl] at hvy;obtain ⟨A,rfl⟩:=b9 hx.1.1;obtain ⟨Bn,rfl⟩:=b9 hy.1.1;have ih1:=ih y (cond (decide ((A:Int) < Bn+c)) 1 0) hx.2 hy.2 hl (by cases decide ((A:Int) < Bn+c) <;> simp);have ec:(((cond (decide ((A:Int) < Bn+c)) 1 0:Nat)):Int)=cond (decide ((A:Int) < Bn+c)) 1 0:=by cases decide ((A:Int) < Bn+c) <;> rfl
   rw [ec] at ih1;simp only [Qp,ih1];clear ih ih1;simp only [val,bE,cQ,fF,bM];generalize 18446744073709551616 ^ x.length=p at *;by_cases hd:(A:Int) < Bn+c
   ·have hd':A < Bn+c:=by omega
    simp only [hd,oF,aB];have g1:(A+18446744073709551616*val x+p*18446744073709551616 - (Bn+18446744073709551616*val y) - c) / 18446744073709551616=val x+p - val y - 1:=by omega
    have g2:((A:Int)+18446744073709551616 - Bn - c)%18446744073709551616=(((A+18446744073709551616*val x+p*18446744073709551616 - (Bn+18446744073709551616*val y) - c)%18446744073709551616:Nat):Int):=by omega
    rw [g1,g2];congr 2;exact j7.2 (by omega)
   ·have hd':¬ A < Bn+c:=by omega
    simp only [hd,oE,aD];have g1:(A+18446744073709551616*val x+p*18446744073709551616 - (Bn+18446744073709551616*val y) - c) / 18446744073709551616=val x+p - val y:=by omega
    have g2:((A:Int)+18446744073709551616 - Bn - c)%18446744073709551616=(((A+18446744073709551616*val x+p*18446744073709551616 - (Bn+18446744073709551616*val y) - c)%18446744073709551616:Nat):Int):=by omega
    rw [g1,g2];congr 2;exact j7.2 (by omega)
theorem Tp {n:Int} (h0:0 <= n) (h1:n < 18446744073709551616):u64.wrap n=n:=by
 simp [IntKind.wrap,IntKind.bits,IntKind.signed]; omega
theorem fM (n:Nat):u64.wrap (n:Int)=((n%18446744073709551616:Nat):Int):=by
 simp [IntKind.wrap,IntKind.bits,IntKind.signed]
theorem Db (n:Nat):u8.wrap (n:Int)=((n%256:Nat):Int):=by
 simp [IntKind.wrap,IntKind.bits,IntKind.signed]
theorem bY {n:Int} (h0:-9223372036854775808 <= n) (h1:n < 9223372036854775808):i64.wrap n=n:=by
 have e:(2:Int) ^ 64=18446744073709551616:=by decide
 have e2:(2:Int) ^ 63=9223372036854775808:=by decide
 simp only [IntKind.wrap,IntKind.bits,IntKind.signed];simp;omega
theorem mV (x n:Nat) (h:n < 64):eK .u64 (x:Int) (n:Int)=((x / 2 ^ n:Nat):Int):=by
 unfold eK;have:min ((n:Int).toNat) (IntKind.bits .u64)=n:=by
  simp [IntKind.bits]; omega
 rw [this,Int.fdiv_eq_ediv_of_nonneg _ (by exact_mod_cast pW _)]
 push_cast
 rfl
theorem Dc (x n:Nat) (h:n < 64):j9 .u64 (x:Int) (n:Int)=((x*2 ^ n%18446744073709551616:Nat):Int):=by
 unfold j9;have:min ((n:Int).toNat) (IntKind.bits .u64)=n:=by
  simp [IntKind.bits]; omega
 rw [this,show ((x:Int)*2 ^ n)=((x*2 ^ n:Nat):Int) by push_cast; rfl,fM]
theorem Zo (x:Nat) (h:x < 18446744073709551616):(BitVec.ofInt 64 (x:Int)).toNat=x:=by
 simp;omega
theorem Dd (x y:Nat) (hx:x < 18446744073709551616) (hy:y < 18446744073709551616):d8 .u64 (x:Int) (y:Int)=((x &&& y:Nat):Int):=by
 unfold d8;have e:(BitVec.ofInt (IntKind.bits .u64) (x:Int) &&& BitVec.ofInt (IntKind.bits .u64) (y:Int)).toNat=x &&& y:=by
  show (BitVec.ofInt 64 (x:Int) &&& BitVec.ofInt 64 (y:Int)).toNat=x &&& y;rw [BitVec.toNat_and,Zo x hx,Zo y hy]
 rw [e,fM,aV];exact iI Nat.and_le_left hx
theorem NZ (x y:Nat) (hx:x < 18446744073709551616) (hy:y < 18446744073709551616):Du .u64 (x:Int) (y:Int)=((x ||| y:Nat):Int):=by
 unfold Du;have e:(BitVec.ofInt (IntKind.bits .u64) (x:Int) ||| BitVec.ofInt (IntKind.bits .u64) (y:Int)).toNat=x ||| y:=by
  show (BitVec.ofInt 64 (x:Int) ||| BitVec.ofInt 64 (y:Int)).toNat=x ||| y;rw [BitVec.toNat_or,Zo x hx,Zo y hy]
 rw [e,fM,aV];exact Hp (n:=64) hx hy
theorem aKw (x:Nat) (hx:x < 18446744073709551616):d8 .u64 (x:Int) 1=((x%2:Nat):Int):=by
 rw [show (1:Int)=((1:Nat):Int) from rfl,Dd x 1 hx (by omega),Nat.and_one_is_mod]
theorem Wm (x:Nat) (hx:x < 18446744073709551616):d8 .u64 (x:Int) 4294967295=((x%4294967296:Nat):Int):=by
 rw [show (4294967295:Int)=((4294967295:Nat):Int) from rfl,Dd x _ hx (by omega)];rw [show (4294967295:Nat)=2 ^ 32 - 1 from rfl,PR]
theorem aD6 (x r:Nat) (hx:x < 2 ^ r):x ||| 2 ^ r=x+2 ^ r:=by
 have:=yV hx 1;rw [iY] at this;rw [Nat.or_comm,<-this,Nat.add_comm]
theorem wG:∀ (k q n:Nat),q < k->(cQ k n).getD q 0=((n / 18446744073709551616 ^ q%18446744073709551616:Nat):Int):=by
 intro k
 induction k with
 | zero=>intro q n h; omega
 | succ k ih=>
  intro q n h;cases q with
  | zero=>simp [cQ]
  | succ q=>
   simp only [cQ,As];rw [ih q _ (by omega),bM,cG (_ ^ q),gR]
theorem aKx:∀ (k q n m:Nat),q < k->n / 18446744073709551616 ^ q+m < 18446744073709551616 ->
  (cQ k n).set q (((n / 18446744073709551616 ^ q+m:Nat)):Int)=cQ k (n+18446744073709551616 ^ q*m):=by
 intro k
 induction k with
 | zero=>intro q n m h; omega
 | succ k ih=>
  intro q n m h hm;cases q with
  | zero=>
   simp only [jL,uS,pV] at hm ⊢;simp only [cQ,yS];rw [aV hm,jJ hm,jJ (by omega:n < 18446744073709551616)]
  | succ q=>
   simp only [cQ,Hj];have e1:n / 18446744073709551616 ^ (q+1)=n / 18446744073709551616 / 18446744073709551616 ^ q:=by
    rw [bM,cG (_ ^ q),gR]
   rw [e1] at hm ⊢;rw [ih q (n / 18446744073709551616) m (by omega) hm];have e2:n+18446744073709551616 ^ (q+1)*m=n+18446744073709551616*(18446744073709551616 ^ q*m):=by
    rw [bM,cG (_ ^ q),d9]
   rw [e2];congr 1
   ·congr 1; omega
   ·congr 1; omega
theorem CB (q:Nat):18446744073709551616 ^ q=2 ^ (64*q):=by rw [jK]
theorem aKy (n q r:Nat) (hr:r < 64):n / 18446744073709551616 ^ q%18446744073709551616 / 2 ^ r%2=n / 2 ^ (64*q+r)%2:=by
 rw [CB,dM,<-gR];generalize n / 2 ^ (64*q)=x;have e:18446744073709551616=2 ^ r*(2*2 ^ (63 - r)):=by
  rw [<-Nat.pow_succ',<-dM,show r+(63 - r).succ=64 by omega]
 rw [e,Ho,PS]
open Go Go.Proofs
def W8 (l:List Int):AV:=.s (.pl (.agg (.ints .u64 l) 8))
def Qq:Nat:=1000000
abbrev Zp (t:Int × Int):AV:=.tup [.s (.pl (.int .u64 t.1)),.s (.pl (.int .u64 t.2))]
def uE (x y c:Int):Bool:=decide (0 <= x) && decide (0 <= y) && decide (0 <= c) && decide (c <= 1) && decide (x < 18446744073709551616) && decide (y < 18446744073709551616)
def jU:Summ where
 T:=Int × Int
 run:=λ
  | [.c (.s (.pl (.int .u64 x))),.c (.s (.pl (.int .u64 y))),.c (.s (.pl (.int .u64 c)))]=>cond (uE x y c) (some ((x+y+c)%18446744073709551616,(x+y+c) / 18446744073709551616)) none
  | _=>none
 enc:=Zp
def Ca:Summ where
 T:=Int × Int
 run:=λ
  | [.c (.s (.pl (.int .u64 x))),.c (.s (.pl (.int .u64 y))),.c (.s (.pl (.int .u64 c)))]=>cond (uE x y c) (some ((x+18446744073709551616 - y - c)%18446744073709551616,cond (decide (x < y+c)) 1 0)) none
  | _=>none
 enc:=Zp
theorem Wn {w:World} {ρ:Plc} (a b:Int):AVR w ρ (Zp (a,b)) (.tuple #[.int .u64 a,.int .u64 b]):=by
 refine ⟨_,rfl,rfl,λ i x v hx hv=>?_⟩
 match i with
 | 0=>simp at hx hv; subst hx; subst hv; exact ⟨rfl,λ _ _ e=>by cases e⟩
 | 1=>simp at hx hv; subst hx; subst hv; exact ⟨rfl,λ _ _ e=>by cases e⟩
 | i+2=>simp at hx
theorem LK {w:World} {ρ:Plc} {k:IntKind} {x y c:Int} {vs:List Value} (h:AVRs w ρ [.int k x,.int k y,.int k c] vs):vs=[.int k x,.int k y,.int k c]:=by
 match vs,h with
 | [u,v,z],⟨h1,h2,h3,_⟩=>rw [h1.ofInt,h2.ofInt,h3.ofInt]
 | [],h=>simp [AVRs] at h
 | [_],h=>simp [AVRs] at h
 | [_,_],h=>simp [AVRs] at h
 | _ :: _ :: _ :: _ :: _,h=>simp [AVRs] at h
theorem Ix:CallOk prog 136 jU:=by
 refine CallOk.extern (e:=add64Entry) Tryz.func136 (by kernel_rfl) (by kernel_rfl) (by kernel_rfl) (by kernel_rfl) ?_;intro args t ht;simp only [jU] at ht;split at ht
 ·rename_i x y c;obtain ⟨h1,h2⟩:=aY ht;simp only [uE,aX,bG] at h1;cases h2;refine ⟨rfl,λ w X vs hargs=>?_⟩;rw [LK hargs];exact ⟨_,run_add64 x y c (by omega) (by omega) (by omega) (by omega) w,Wn _ _⟩
 ·simp at ht
def aYg:Array Value->Sem Value:=(Extern.MathBitsCarry.rows[1]'(by decide)).2
theorem aD7 {P:Program} (x y b:Nat) (hb:b <= 1) (w:World):(aYg #[.int .u64 x,.int .u64 y,.int .u64 b]).run P w =
  .ok (.tuple #[.int .u64 (((x+18446744073709551616 - y - b)%18446744073709551616:Nat):Int),.int .u64 ((if x < y+b then 1 else 0:Nat):Int)]) w:=by
 have:b=0 ∨ b=1:=by omega
 rcases this with rfl | rfl <;> rfl
theorem aD8:CallOk prog 137 Ca:=by
 refine CallOk.extern (e:=aYg) Tryz.func137 (by kernel_rfl) (by kernel_rfl) (by kernel_rfl) (by kernel_rfl) ?_;intro args t ht;simp only [Ca] at ht;split at ht
 ·rename_i x y c;obtain ⟨h1,h2⟩:=aY ht;simp only [uE,aX,bG] at h1;cases h2;refine ⟨rfl,λ w X vs hargs=>?_⟩;rw [LK hargs];obtain ⟨x,rfl⟩:=b9 h1.1.1.1.1.1;obtain ⟨y,rfl⟩:=b9 h1.1.1.1.1.2;obtain ⟨c,rfl⟩:=b9 h1.1.1.1.2;refine ⟨_,aD7 x y c (by omega) w,?_⟩;have e1:((((x+18446744073709551616 - y - c)%18446744073709551616:Nat)):Int)=((x:Int)+18446744073709551616 - y - c)%18446744073709551616:=by omega
  have e2:(((if x < y+c then 1 else 0:Nat)):Int)=cond (decide ((x:Int) < y+c)) 1 0:=by
   by_cases h:x < y+c
   ·have:(x:Int) < y+c:=by omega
    simp [h,this]
   ·have:¬ (x:Int) < y+c:=by omega
    simp [h,this]
  rw [e1,e2];exact Wn _ _
 ·simp at ht
def De {β:Type} (A:FA (Int × Int)):List Int->List Int->Int->List Int->(List Int->Int->Option β)->Option β
 | a :: xs,b :: ys,c,acc,K=>(A [.int .u64 a,.int .u64 b,.int .u64 c]).bind λ t=>De A xs ys t.2 (acc++[t.1]) K
 | _,_,c,acc,K=>K acc c
def Na:Cg:=⟨⟨dE [(136,jU),(137,Ca)],[],dR⟩,[(5,[2,3,4,6,7,8,9,10,11],[6,7,8,9])]⟩
theorem Γ_both:∀ f A,Na.c.Γ f=some A->CallOk prog f A:=aA Ix (aA aD8 aK)
theorem Qr (a0 a1 a2 a3 a4 a5 a6 a7 b0 b1 b2 b3 b4 b5 b6 b7:Int):bB prog Tryz.f135 Na Qq [W8 [a0,a1,a2,a3,a4,a5,a6,a7],W8 [b0,b1,b2,b3,b4,b5,b6,b7],.s (.clo 136 [] [])]
 =De jU.run [a0,a1,a2,a3,a4,a5,a6,a7] [b0,b1,b2,b3,b4,b5,b6,b7] 0 [] (λ l c=>some (.tup [.s (.pl (.agg (.ints .u64 l) 8)),.s (.pl (.bool (decide (c=0))))])):=by kernel_rfl
theorem Qs (a0 a1 a2 a3 a4 a5 a6 a7 b0 b1 b2 b3 b4 b5 b6 b7:Int):bB prog Tryz.f135 Na Qq [W8 [a0,a1,a2,a3,a4,a5,a6,a7],W8 [b0,b1,b2,b3,b4,b5,b6,b7],.s (.clo 137 [] [])]
 =De Ca.run [a0,a1,a2,a3,a4,a5,a6,a7] [b0,b1,b2,b3,b4,b5,b6,b7] 0 [] (λ l c=>some (.tup [.s (.pl (.agg (.ints .u64 l) 8)),.s (.pl (.bool (decide (c=0))))])):=by kernel_rfl
theorem Zq {β:Type} {K:List Int->Int->Option β}:∀ (x y:List Int) (c:Int) (acc:List Int),qN x=true->qN y=true->x.length=y.length->0 <= c->c <= 1 ->
  De jU.run x y c acc K=K (acc++(Qo x y c).1) (Qo x y c).2:=by
 intro x
 induction x with
 | nil=>intro y c acc hx hy hl h0 h1; cases y <;> simp_all [De,Qo]
 | cons a x ih=>
  intro y c acc hx hy hl h0 h1;cases y with
  | nil=>simp at hl
  | cons b y=>
   simp only [qN,aX,bG] at hx hy;simp only [fF,Hm] at hl;have e:jU.run [.int .u64 a,.int .u64 b,.int .u64 c]=some ((a+b+c)%18446744073709551616,(a+b+c) / 18446744073709551616):=by
    simp [jU,uE,hx.1.1,hx.1.2,hy.1.1,hy.1.2,h0,h1]
   simp only [De,e,aC];rw [ih y _ _ hx.2 hy.2 hl (by omega) (by omega)];simp [Qo]
theorem Zr {β:Type} {K:List Int->Int->Option β}:∀ (x y:List Int) (c:Int) (acc:List Int),qN x=true->qN y=true->x.length=y.length->0 <= c->c <= 1 ->
  De Ca.run x y c acc K=K (acc++(Qp x y c).1) (Qp x y c).2:=by
 intro x
 induction x with
 | nil=>intro y c acc hx hy hl h0 h1; cases y <;> simp_all [De,Qp]
 | cons a x ih=>
  intro y c acc hx hy hl h0 h1;cases y with
  | nil=>simp at hl
  | cons b y=>
   simp only [qN,aX,bG] at hx hy;simp only [fF,Hm] at hl;have e:Ca.run [.int .u64 a,.int .u64 b,.int .u64 c]=some ((a+18446744073709551616 - b - c)%18446744073709551616,cond (decide (a < b+c)) 1 0):=by
    simp [Ca,uE,hx.1.1,hx.1.2,hy.1.1,hy.1.2,h0,h1]
   simp only [De,e,aC];rw [ih y _ _ hx.2 hy.2 hl (by cases decide (a < b+c) <;> simp) (by cases decide (a < b+c) <;> simp)];simp [Qp]
abbrev Iy (t:Nat × Bool):AV:=.tup [.s (.pl (.agg (.ints .u64 (cQ 8 t.1)) 8)),.s (.pl (.bool t.2))]
def Tq (a b:List Int):Nat × Bool:=(val a+val b,decide (val a+val b < fK))
def Tr (a b:List Int):Nat × Bool:=(val a+fK - val b,decide (val b <= val a))
theorem aKz (A B:Nat):(some (AV.tup [.s (.pl (.agg (.ints .u64 (cQ 8 (A+B))) 8)),.s (.pl (.bool (decide ((((A+B) / fK:Nat):Int)=((0:Nat):Int)))))]):Option AV)=some (Iy (A+B,decide (A+B < fK))):=by
 have:decide ((((A+B) / fK:Nat):Int)=((0:Nat):Int))=decide (A+B < fK):=by
  refine j7.2 ?_;rw [Int.natCast_inj,Nat.div_eq_zero_iff];have:fK ≠ 0:=by decide +kernel
  omega
 rw [this]
def Iz:Summ where
 T:=Nat × Bool
 run:=λ
  | [.c (.s (.pl (.agg (.ints .u64 a) 8))),.c (.s (.pl (.agg (.ints .u64 b) 8))),.c (.s (.clo f [] []))]=>cond (jO a && jO b) (cond (Nat.beq f 136) (some (Tq a b)) (cond (Nat.beq f 137) (some (Tr a b)) none)) none
  | _=>none
 enc:=Iy
theorem aKA:CallOk prog 135 Iz:=by
 refine jR (g:=Na) (fu:=λ _=>Qq) gH Γ_both Tryz.func135 (by kernel_rfl) ?_;intro args t ht;simp only [Iz] at ht;split at ht
 ·rename_i a b f;obtain ⟨h1,h2⟩:=aY ht;simp only [aX] at h1;have ha:=tA h1.1;have hb:=tA h1.2;have la:=uD h1.1;have lb:=uD h1.2;have va:=xP h1.1;have vb:=xP h1.2;cases hf:Nat.beq f 136
  ·rw [hf] at h2;simp only [aD] at h2;obtain ⟨h3,h4⟩:=aY h2;have:f=137:=aS h3;subst this;cases h4;have key:=Zr (K:=λ l c=>some (AV.tup [.s (.pl (.agg (.ints .u64 l) 8)),.s (.pl (.bool (decide (c=0))))])) a b 0 [] ha hb (by omega) (by omega) (by omega);rw [show ((0:Int))=((0:Nat):Int) from rfl,aKv a b 0 ha hb (by omega) (by omega),la] at key;obtain ⟨a0,a1,a2,a3,a4,a5,a6,a7,rfl⟩:=wF h1.1;obtain ⟨b0,b1,b2,b3,b4,b5,b6,b7,rfl⟩:=wF h1.2;refine (Qs a0 a1 a2 a3 a4 a5 a6 a7 b0 b1 b2 b3 b4 b5 b6 b7).trans (key.trans ?_);simp only [rI,Hr,fH,<-pM,Tr];by_cases hc:val [a0,a1,a2,a3,a4,a5,a6,a7] < val [b0,b1,b2,b3,b4,b5,b6,b7]
   ·have hc':¬ val [b0,b1,b2,b3,b4,b5,b6,b7] <= val [a0,a1,a2,a3,a4,a5,a6,a7]:=by omega
    simp [hc,hc']; rfl
   ·have hc':val [b0,b1,b2,b3,b4,b5,b6,b7] <= val [a0,a1,a2,a3,a4,a5,a6,a7]:=by omega
    simp [hc,hc']; rfl
  ·rw [hf] at h2;have:f=136:=aS hf;subst this;cases h2;have key:=Zq (K:=λ l c=>some (AV.tup [.s (.pl (.agg (.ints .u64 l) 8)),.s (.pl (.bool (decide (c=0))))])) a b 0 [] ha hb (by omega) (by omega) (by omega);rw [show ((0:Int))=((0:Nat):Int) from rfl,aKu a b 0 ha hb (by omega) (by omega),la] at key;obtain ⟨a0,a1,a2,a3,a4,a5,a6,a7,rfl⟩:=wF h1.1;obtain ⟨b0,b1,b2,b3,b4,b5,b6,b7,rfl⟩:=wF h1.2;refine (Qr a0 a1 a2 a3 a4 a5 a6 a7 b0 b1 b2 b3 b4 b5 b6 b7).trans (key.trans ?_);simp only [rI,fH,<-pM,Tq];exact aKz _ _
 ·simp at ht
def AE:Cg:=⟨⟨dE [(135,Iz)],[],dR⟩,[]⟩
theorem Γ_addsub:∀ f A,AE.c.Γ f=some A->CallOk prog f A:=aA aKA aK
def Qt {T:Type} (F:List Int->List Int->T):FA T
 | [.c (.s (.pl (.agg (.ints .u64 a) 8))),.c (.s (.pl (.agg (.ints .u64 b) 8)))]=>cond (jO a && jO b) (some (F a b)) none
 | _=>none
theorem Df {T:Type} {F:List Int->List Int->T} {args:List AV} {t:T} (h:Qt F args=some t):∃ a b,args=[W8 a,W8 b] /\ jO a=true /\ jO b=true /\ t=F a b:=by
 unfold Qt at h;split at h
 ·rename_i a b;obtain ⟨h1,h2⟩:=aY h;simp only [aX] at h1;cases h2;exact ⟨a,b,rfl,h1.1,h1.2,rfl⟩
 ·cases h
def aYh:Summ:={ T:=Nat × Bool,run:=Qt Tq,enc:=Iy }
def aKB:Summ:={ T:=Nat × Bool,run:=Qt Tr,enc:=Iy }
theorem aTA (a b:List Int):bB prog Tryz.f89 AE Qq [W8 a,W8 b]=(Iz.run [W8 a,W8 b,.s (.clo 136 [] [])]).bind λ t=>some (Iy t):=by kernel_rfl
theorem aTB (a b:List Int):bB prog Tryz.f92 AE Qq [W8 a,W8 b]=(Iz.run [W8 a,W8 b,.s (.clo 137 [] [])]).bind λ t=>some (Iy t):=by kernel_rfl
theorem Nb {a b:List Int} (ha:jO a=true) (hb:jO b=true):Iz.run [W8 a,W8 b,.s (.clo 136 [] [])]=some (Tq a b):=by
 show cond (jO a && jO b) _ none=_;rw [ha,hb]; rfl
theorem Nc {a b:List Int} (ha:jO a=true) (hb:jO b=true):Iz.run [W8 a,W8 b,.s (.clo 137 [] [])]=some (Tr a b):=by
 show cond (jO a && jO b) _ none=_;rw [ha,hb]; rfl
theorem Ts:CallOk prog 89 aYh:=by
 refine jR (g:=AE) (fu:=λ _=>Qq) gH Γ_addsub Tryz.func89 (by kernel_rfl) ?_;intro args t ht;obtain ⟨a,b,rfl,ha,hb,rfl⟩:=Df ht;rw [aTA,Nb ha hb]; rfl
theorem Nd:CallOk prog 92 aKB:=by
 refine jR (g:=AE) (fu:=λ _=>Qq) gH Γ_addsub Tryz.func92 (by kernel_rfl) ?_;intro args t ht;obtain ⟨a,b,rfl,ha,hb,rfl⟩:=Df ht;rw [aTB,Nc ha hb]; rfl
def CC:Cg:=⟨⟨dE [],[],dR⟩,[(3,[2,3,4,5],[4])]⟩
def aD9:List Int->List Int->Option AV
 | a :: x,b :: y=>cond (decide (a < b)) (some (.int .i64 (-1))) (cond (decide (b < a)) (some (.int .i64 1)) (aD9 x y))
 | _,_=>some (.int .i64 0)
theorem aTC (a0 a1 a2 a3 a4 a5 a6 a7 b0 b1 b2 b3 b4 b5 b6 b7:Int):bB prog Tryz.f91 CC Qq [W8 [a0,a1,a2,a3,a4,a5,a6,a7],W8 [b0,b1,b2,b3,b4,b5,b6,b7]]=aD9 [a7,a6,a5,a4,a3,a2,a1,a0] [b7,b6,b5,b4,b3,b2,b1,b0]:=by kernel_rfl
theorem aYi (n:Int):bB prog Tryz.f105 CC Qq [.int .u64 n]=some (W8 [n,0,0,0,0,0,0,0]):=by kernel_rfl
def qO (x y:Nat):Int:=cond (decide (x < y)) (-1) (cond (decide (y < x)) 1 0)
def gD:List Int->Nat->Nat
 | [],s=>s
 | x :: r,s=>gD r (x.toNat+18446744073709551616*s)
theorem aKC:∀ (x y:List Int),qN x=true->qN y=true->x.length=y.length->∀ s,aD9 x y=some (.int .i64 (qO (gD x s) (gD y s))):=by
 have key:∀ (x y:List Int),qN x=true->qN y=true->x.length=y.length->∀ s t,s < t->gD x s < gD y t:=by
  intro x
  induction x with
  | nil=>intro y _ _ hl s t h; cases y with
   | nil=>simpa [gD] using h
   | cons _ _=>simp at hl
  | cons a x ih=>
   intro y hx hy hl s t h;cases y with
   | nil=>simp at hl
   | cons b y=>
    simp only [qN,aX,bG] at hx hy;simp only [gD];exact ih y hx.2 hy.2 (by simpa using hl) _ _ (by omega)
 intro x
 induction x with
 | nil=>intro y _ _ hl s; cases y with
  | nil=>simp [aD9,gD,qO]
  | cons _ _=>simp at hl
 | cons a x ih=>
  intro y hx hy hl s;cases y with
  | nil=>simp at hl
  | cons b y=>
   simp only [qN,aX,bG] at hx hy;simp only [aD9,gD];have hl':x.length=y.length:=by simpa using hl
   by_cases h1:a < b
   ·have:=key x y hx.2 hy.2 hl' (a.toNat+18446744073709551616*s) (b.toNat+18446744073709551616*s) (by omega);simp [h1,qO,this]
   ·by_cases h2:b < a
    ·have:=key y x hy.2 hx.2 hl'.symm (b.toNat+18446744073709551616*s) (a.toNat+18446744073709551616*s) (by omega);have h3:¬ gD x (a.toNat+18446744073709551616*s) < gD y (b.toNat+18446744073709551616*s):=by omega
     simp [h1,h2,qO,this,h3]
    ·have:a=b:=by omega
     subst this;simp only [h1,oE,aD];exact ih y hx.2 hy.2 hl' _
theorem I0 (a0 a1 a2 a3 a4 a5 a6 a7:Int):gD [a7,a6,a5,a4,a3,a2,a1,a0] 0=val [a0,a1,a2,a3,a4,a5,a6,a7]:=by
 simp [gD,val]
theorem Nf {a0 a1 a2 a3 a4 a5 a6 a7:Int} (h:qN [a0,a1,a2,a3,a4,a5,a6,a7]=true):qN [a7,a6,a5,a4,a3,a2,a1,a0]=true:=by
 simp only [qN,aX,bG,Fo] at h ⊢;simp [h]
def aTD:Summ:={ T:=Int,run:=Qt λ a b=>qO (val a) (val b),enc:=λ t=>.int .i64 t }
theorem aEa:CallOk prog 91 aTD:=by
 refine jR (g:=CC) (fu:=λ _=>Qq) gH aK Tryz.func91 (by kernel_rfl) ?_;intro args t ht;obtain ⟨a,b,rfl,ha,hb,rfl⟩:=Df ht;have ha':=tA ha;have hb':=tA hb;obtain ⟨a0,a1,a2,a3,a4,a5,a6,a7,rfl⟩:=wF ha;obtain ⟨b0,b1,b2,b3,b4,b5,b6,b7,rfl⟩:=wF hb;rw [aTC,aKC _ _ (Nf ha') (Nf hb') rfl 0,I0,I0];rfl
def sOf:Summ where
 T:=Int
 run:=λ
  | [.c (.s (.pl (.int .u64 n)))]=>some n
  | _=>none
 enc:=λ n=>W8 [n,0,0,0,0,0,0,0]
theorem Wo:CallOk prog 105 sOf:=by
 refine jR (g:=CC) (fu:=λ _=>Qq) gH aK Tryz.func105 (by kernel_rfl) ?_;intro args t ht;simp only [sOf] at ht;split at ht
 ·cases ht;exact aYi _
 ·cases ht
abbrev inB (i:Int):Bool:=decide (0 <= i64.wrap (i.tdiv 64) /\ i64.wrap (i.tdiv 64) < ((8:Nat):Int))
abbrev I3 (i:Int):Nat:=0+(i64.wrap (i.tdiv 64)).toNat
theorem aTF (a:List Int) (i:Int):bB prog Tryz.f90 CC Qq [W8 a,.int .i64 i] =
  cond (decide (i < 0) || decide (512 <= i)) (some (.int .u64 0)) (cond (inB i) (cond (decide (i.tmod 64 < 0)) none (some (.int .u64 (d8 .u64 (eK .u64 (a.getD (I3 i) 0) (i.tmod 64)) 1)))) none):=by kernel_rfl
def mH (n:Nat) (i:Int):Nat:=cond (decide (i < 0)) 0 (n / 2 ^ i.toNat%2)
def I4:Summ where
 T:=Nat
 run:=λ
  | [.c (.s (.pl (.agg (.ints .u64 a) 8))),.c (.s (.pl (.int .i64 i)))]=>cond (jO a) (some (mH (val a) i)) none
  | _=>none
 enc:=λ n=>.int .u64 n
theorem Qu (j:Nat) (h:j < 512):inB j=true /\ I3 j=j / 64 /\ (j:Int).tmod 64=((j%64:Nat):Int):=by
 have e1:(j:Int).tdiv 64=((j / 64:Nat):Int):=by rw [rF (by omega)]; rfl
 have e2:(j:Int).tmod 64=((j%64:Nat):Int):=by rw [lM (by omega)]; rfl
 have e3:i64.wrap ((j:Int).tdiv 64)=((j / 64:Nat):Int):=by rw [e1,bY (by omega) (by omega)]
 refine ⟨?_,?_,e2⟩
 ·simp only [inB,e3,bG]; omega
 ·simp only [I3,e3]; omega
theorem Tt (q j:Nat) (h:64*q <= j):18446744073709551616 ^ q <= 2 ^ j:=by
 rw [CB]; exact iK (by omega) h
theorem Ng:CallOk prog 90 I4:=by
 refine jR (g:=CC) (fu:=λ _=>Qq) gH aK Tryz.func90 (by kernel_rfl) ?_;intro args t ht;simp only [I4] at ht;split at ht
 ·rename_i a i;obtain ⟨ha,h2⟩:=aY ht;cases h2;refine (aTF a i).trans ?_;by_cases h0:i < 0
  ·simp [h0,mH,I4]
  ·obtain ⟨j,rfl⟩:=b9 (by omega:0 <= i);by_cases h1:512 <= (j:Int)
   ·have hz:val a / 2 ^ j=0:=by
     refine jJ (cU (xP ha) ?_);rw [pM];exact Tt 8 j (by omega)
    simp [h1,mH,I4,hz]
   ·obtain ⟨g1,g2,g3⟩:=Qu j (by omega);have hneg:¬ (((j%64:Nat):Int) < 0):=by omega
    have eb:d8 .u64 (eK .u64 (a.getD (j / 64) 0) ((j%64:Nat):Int)) 1=((val a / 2 ^ j%2:Nat):Int):=by
     rw [<-nK ha,wG 8 (j / 64) _ (by omega),mV _ _ (bK _ (by omega)),aKw,aKy _ _ _ (bK _ (by omega)),nK ha]
     ·rw [show 64*(j / 64)+j%64=j by omega]
     ·exact iI (pQ _ _) (bK _ (by omega))
    simp only [g1,g2,g3,h0,h1,hneg,oE,Bool.or_self,aD,aB,eb];show some (AV.int .u64 _)=some (AV.int .u64 ((mH (val a) j:Nat):Int));simp only [mH,h0,oE,aD,bE]
 ·cases ht
def tW:TypeId:=Tryz.f105.resultTypes.getD 0 0
def pN:Cg:=⟨⟨dE [(90,I4)],[],dR⟩,[(6,[1,2,4,5,14],[4,5])]⟩
theorem Γ_shift:∀ f A,pN.c.Γ f=some A->CallOk prog f A:=aA Ng aK
abbrev Cb:List Nat:=[1,1,1,0,1,2]
abbrev gG:List Int:=[0,0,0,0,0,0,0,0]
def aEb (a o:List Int) (sh i:Int):St :=
 {tm:=[(1,.int .i64 sh),(2,.s (.ptr 0 0 8)),(4,.s (.ptr 1 0 8)),(5,.s (.ptr 2 0 8)),(14,.int .i64 i)],
  hp:=[(0,⟨tW,8,.t (.ints .u64 a)⟩),(1,⟨tW,8,.t (.ints .u64 gG)⟩),(2,⟨tW,8,.t (.ints .u64 o)⟩)],nx:=3,sz:=34 }
def aTG (o:List Int):St :=
 {tm:=[(4,.s (.ptr 0 0 8)),(5,.s (.ptr 1 0 8))],hp:=[(0,⟨tW,8,.t (.ints .u64 gG)⟩),(1,⟨tW,8,.t (.ints .u64 o)⟩)],nx:=2,sz:=34 }
theorem aEc (fu:Nat) (a:List Int) (sh:Int):bB prog Tryz.f133 pN fu [W8 a,.int .i64 sh] =
  cond (decide (512 <= sh) || decide (sh <= -512)) (some (W8 gG)) (EY prog pN fu Tryz.f133 Cb (Gd prog pN fu Tryz.f133 Cb) fu (some (aEb a gG sh 0))):=by kernel_rfl
theorem Dg (fu:Nat) (o:List Int):Gd prog pN fu Tryz.f133 Cb (.exit 0) (aTG o)=some (W8 o):=by kernel_rfl
theorem CD (fu:Nat) (a o:List Int) (sh i:Int) (G:Option St->Option AV) (H:Ex->Option St->Option AV):YU prog pN fu Tryz.f133 Cb G H (aEb a o sh i) =
  cond (decide (i < 512)) ((I4.run [W8 a,.int .i64 (i64.wrap (i - sh))]).bind λ t:Nat=>
   cond (decide ((t:Int)=1)) (cond (inB i) (cond (decide (i.tmod 64 < 0)) none (cond (inB i)
    (G (some (aEb a (o.set (I3 i) (Du .u64 (o.getD (I3 i) 0) (j9 .u64 1 (i.tmod 64)))) sh (i64.wrap (i+1))))) none)) none)
    (G (some (aEb a o sh (i64.wrap (i+1)))))) (H (.exit 0) (some (aTG o))):=by kernel_rfl
theorem LL (T j:Nat):T%2 ^ (j+1)=T%2 ^ j+2 ^ j*(T / 2 ^ j%2):=by
 rw [bM,uU]
theorem aEd {a:List Int} (ha:jO a=true) (i:Int):I4.run [W8 a,.int .i64 i]=some (mH (val a) i):=by
 show cond (jO a) _ none=_;rw [ha]; rfl
theorem Zs (T j:Nat) (hj:j < 512) (hb:T / 2 ^ j%2=1) :
  (cQ 8 (T%2 ^ j)).set (I3 j) (Du .u64 ((cQ 8 (T%2 ^ j)).getD (I3 j) 0) (j9 .u64 1 ((j:Int).tmod 64)))=cQ 8 (T%2 ^ (j+1)):=by
 obtain ⟨_,g2,g3⟩:=Qu j hj;have hq:j / 64 < 8:=by omega
 have hr:j%64 < 64:=bK _ (by omega);have hx:T%2 ^ j / 18446744073709551616 ^ (j / 64) < 2 ^ (j%64):=by
  rw [BU (gS (by omega)),CB,<-dM,show j%64+64*(j / 64)=j by omega];exact bK _ (gS (by omega))
 have hr2:2 ^ (j%64) <= 2 ^ 63:=iK (by omega) (by omega);have hp:(2:Nat) ^ 63=9223372036854775808:=by decide
 rw [g2,g3,wG 8 _ _ hq,show (1:Int)=((1:Nat):Int) from rfl,Dc 1 _ hr,pV];rw [aV (by omega:T%2 ^ j / 18446744073709551616 ^ (j / 64) < 18446744073709551616),aV (by omega:2 ^ (j%64) < 18446744073709551616)];rw [NZ _ _ (by omega) (by omega),aD6 _ _ hx,aKx 8 _ _ _ hq (by omega)];rw [LL,hb,iY,CB,<-dM,show 64*(j / 64)+j%64=j by omega]
theorem I5 {a:List Int} {sh:Int} {T fu:Nat} {K:Ex->St->Option AV} (ha:jO a=true) (h1:-512 < sh) (h2:sh < 512) (hT:∀ j:Nat,j < 512->mH (val a) ((j:Int) - sh)=T / 2 ^ j%2) :
  ∀ (m j n:Nat),j+m=512->m < n->EY prog pN fu Tryz.f133 Cb K n (some (aEb a (cQ 8 (T%2 ^ j)) sh j))=K (.exit 0) (aTG (cQ 8 T)):=by
 intro m
 induction m with
 | zero=>
  intro j n hj hn;obtain ⟨n,rfl⟩:=aP (by omega:n ≠ 0);have h8:=HK 8 T;rw [CB] at h8;have e:cQ 8 (T%2 ^ j)=cQ 8 T:=by rw [show j=64*8 by omega]; exact h8
  have hge:¬ (j:Int) < 512:=by omega
  rw [mN,CD,e];simp only [hge,oE,aD];rfl
 | succ m ih=>
  intro j n hj hn;obtain ⟨n,rfl⟩:=aP (by omega:n ≠ 0);have hlt:(j:Int) < 512:=by omega
  obtain ⟨g1,g2,g3⟩:=Qu j (by omega);have hneg:¬ ((j:Int).tmod 64 < 0):=by rw [g3]; omega
  have e1:i64.wrap ((j:Int)+1)=((j+1:Nat):Int):=by rw [bY (by omega) (by omega)]; rfl
  rw [mN,CD,bY (by omega) (by omega),aEd ha,hT j (by omega)];simp only [hlt,oF,aB,aC,g1,hneg,oE,aD,e1];by_cases hb:T / 2 ^ j%2=1
  ·rw [Zs T j (by omega) hb,hb];exact ih (j+1) n (by omega) (by omega)
  ·have h0:T / 2 ^ j%2=0:=by omega
   have e2:T%2 ^ j=T%2 ^ (j+1):=by rw [LL,h0]; simp
   rw [h0,e2];exact ih (j+1) n (by omega) (by omega)
def xQ (n:Nat) (sh:Int):Nat:=cond (decide (512 <= sh) || decide (sh <= -512)) 0 (cond (decide (sh < 0)) (n / 2 ^ (-sh).toNat) (n*2 ^ sh.toNat))
def Nh:Summ where
 T:=Nat
 run:=λ
  | [.c (.s (.pl (.agg (.ints .u64 a) 8))),.c (.s (.pl (.int .i64 i)))]=>cond (jO a) (some (xQ (val a) i)) none
  | _=>none
 enc:=λ n=>W8 (cQ 8 n)
theorem Qv (n s j:Nat):n*2 ^ s / 2 ^ j%2=if j < s then 0 else n / 2 ^ (j - s)%2:=by
 split
 ·rename_i h;obtain ⟨k,rfl⟩:∃ k,s=j+1+k:=⟨s - j - 1,by omega⟩;rw [show n*2 ^ (j+1+k)=n*2 ^ k*2*2 ^ j by rw [dM,bM]; ac_rfl,Nat.mul_div_cancel _ (gS (by omega))];omega
 ·rename_i h;obtain ⟨k,rfl⟩:∃ k,j=s+k:=⟨j - s,by omega⟩;rw [dM,cG (2 ^ s) (2 ^ k),Nat.mul_div_mul_right _ _ (gS (by omega)),show s+k - s=k by omega]
theorem I6:CallOk prog 133 Nh:=by
 refine jR (g:=pN) (fu:=λ _=>600) gH Γ_shift Tryz.func133 (by kernel_rfl) ?_;intro args t ht;simp only [Nh] at ht;split at ht
 ·rename_i a sh;obtain ⟨ha,h2⟩:=aY ht;cases h2;refine (aEc 600 a sh).trans ?_;show _=some (W8 (cQ 8 (xQ (val a) sh)));unfold xQ;cases hc:decide (512 <= sh) || decide (sh <= -512)
  ·simp only [Cv,decide_eq_false_iff_not] at hc;simp only [aD];by_cases hneg:sh < 0
   ·obtain ⟨s,rfl⟩:∃ s:Nat,sh=-(s:Int):=⟨(-sh).toNat,by omega⟩;have:=I5 (a:=a) (sh:=-(s:Int)) (T:=val a / 2 ^ s) (fu:=600) (K:=Gd prog pN 600 Tryz.f133 Cb) ha (by omega) (by omega) (λ j hj=>by
     unfold mH;rw [show (decide ((j:Int) - -(s:Int) < 0))=false by simp; omega,aD,show ((j:Int) - -(s:Int)).toNat=s+j by omega,dM,gR]) 512 0 600 (by omega) (by omega)
    rw [jL,uV] at this;refine (this.trans (Dg 600 _)).trans ?_;simp only [hneg,oF,aB];rw [show (- -(s:Int)).toNat=s by omega]
   ·obtain ⟨s,rfl⟩:=b9 (by omega:0 <= sh);have:=I5 (a:=a) (sh:=(s:Int)) (T:=val a*2 ^ s) (fu:=600) (K:=Gd prog pN 600 Tryz.f133 Cb) ha (by omega) (by omega) (λ j hj=>by
     unfold mH;rw [Qv];by_cases hjs:j < s
     ·rw [show (decide ((j:Int) - (s:Int) < 0))=true by simp; omega,aB,aT hjs]
     ·rw [show (decide ((j:Int) - (s:Int) < 0))=false by simp; omega,aD,aW hjs,show ((j:Int) - (s:Int)).toNat=j - s by omega]) 512 0 600 (by omega) (by omega)
    rw [jL,uV] at this;refine (this.trans (Dg 600 _)).trans ?_;simp only [hneg,oE,aD];rw [bE]
  ·simp only [aB];rw [show cQ 8 0=gG by decide]
 ·cases ht
abbrev Qw (x:Int):Int:=u64.wrap x
def Tu (x y:Int):Int × Int :=
 let x0:=d8 .u64 x 4294967295;let x1:=eK .u64 x 32;let y0:=d8 .u64 y 4294967295;let y1:=eK .u64 y 32;let t:=Qw (Qw (x1*y0)+eK .u64 (Qw (x0*y0)) 32);let u:=Qw (d8 .u64 t 4294967295+Qw (x0*y1))
 (Qw (Qw (Qw (x1*y1)+eK .u64 t 32)+eK .u64 u 32),Qw (x*y))
theorem aEe (x y:Int):bB prog Tryz.f160 CC Qq [.int .u64 x,.int .u64 y]=some (Zp (Tu x y)):=by kernel_rfl
theorem Zt (p q r s:Nat) (hq:q <= 18446744065119617025) (hr:r <= 18446744065119617025) (hs:s <= 18446744065119617025) :
  (p*18446744073709551616+(q+r)*4294967296+s) / 18446744073709551616=p+(q+s / 4294967296) / 4294967296+((q+s / 4294967296)%4294967296+r) / 4294967296:=by omega
theorem aEf (x y:Nat) (hx:x < 18446744073709551616) (hy:y < 18446744073709551616):Tu x y=(((x*y / 18446744073709551616:Nat):Int),((x*y%18446744073709551616:Nat):Int)):=by
 have hx1:x / 4294967296 <= 4294967295:=by omega
 have hx0:x%4294967296 <= 4294967295:=by omega
 have hy1:y / 4294967296 <= 4294967295:=by omega
 have hy0:y%4294967296 <= 4294967295:=by omega
 have e32:(2:Nat) ^ 32=4294967296:=by decide
 have s32:∀ z:Nat,eK .u64 (z:Int) 32=((z / 4294967296:Nat):Int):=λ z=>by
  rw [show (32:Int)=((32:Nat):Int) from rfl,mV z 32 (by omega),e32]
 have hp:=iJ hx1 hy1;have hq:=iJ hx1 hy0;have hr:=iJ hx0 hy1;have hs:=iJ hx0 hy0;have hxy:x*y=(x / 4294967296)*(y / 4294967296)*18446744073709551616+((x / 4294967296)*(y%4294967296)+(x%4294967296)*(y / 4294967296))*4294967296+(x%4294967296)*(y%4294967296):=by
  have e1:x=(x / 4294967296)*4294967296+x%4294967296:=by omega
  have e2:y=(y / 4294967296)*4294967296+y%4294967296:=by omega
  generalize x / 4294967296=a at *;generalize x%4294967296=b at *;generalize y / 4294967296=c at *;generalize y%4294967296=d at *;subst e1; subst e2;grind
 unfold Tu;simp only [Wm x hx,Wm y hy,s32,Qw,<-oA,fM];generalize (x / 4294967296)*(y / 4294967296)=p at *;generalize (x / 4294967296)*(y%4294967296)=q at *;generalize (x%4294967296)*(y / 4294967296)=r at *;generalize (x%4294967296)*(y%4294967296)=s at *;generalize x*y=xy at *;rw [aV (by omega:q < 18446744073709551616),aV (by omega:s < 18446744073709551616),aV (by omega:r < 18446744073709551616),aV (by omega:p < 18446744073709551616)];simp only [s32,<-fZ,fM];rw [aV (by omega:q+s / 4294967296 < 18446744073709551616),Wm _ (by omega)];simp only [s32,<-fZ,fM];rw [aV (by omega:(q+s / 4294967296)%4294967296+r < 18446744073709551616)];congr 2;rw [hxy,Zt p q r s (by omega) (by omega) (by omega)];omega
def hO (x:Int):Bool:=decide (0 <= x /\ x < 18446744073709551616)
def qP:Summ where
 T:=Int × Int
 run:=λ
  | [.c (.s (.pl (.int .u64 x))),.c (.s (.pl (.int .u64 y)))]=>cond (hO x && hO y) (some (x*y / 18446744073709551616,x*y%18446744073709551616)) none
  | _=>none
 enc:=Zp
theorem Qx:CallOk prog 160 qP:=by
 refine jR (g:=CC) (fu:=λ _=>Qq) gH aK Tryz.func160 (by kernel_rfl) ?_;intro args t ht;simp only [qP] at ht;split at ht
 ·rename_i x y;obtain ⟨h1,h2⟩:=aY ht;simp only [hO,aX,bG] at h1;cases h2;obtain ⟨x,rfl⟩:=b9 h1.1.1;obtain ⟨y,rfl⟩:=b9 h1.2.1;rw [aEe,aEf x y (by omega) (by omega)];rfl
 ·cases ht
def Tv {β:Type} (M A:FA (Int × Int)) (a:Int):List Int->List Int->Int->Bool->List Int->(List Int->Int->Bool->Option β)->Option β
 | b :: bs,z :: zs,c,ok,acc,K=>(M [.int .u64 a,.int .u64 b]).bind λ t=>(A [.int .u64 t.2,.int .u64 c,.int .u64 0]).bind λ u=>(A [.int .u64 z,.int .u64 u.1,.int .u64 0]).bind λ v=>
   Tv M A a bs zs (Qw (Qw (t.1+u.2)+v.2)) ok (acc++[v.1]) K
 | b :: bs,[],c,ok,acc,K=>(M [.int .u64 a,.int .u64 b]).bind λ t=>Tv M A a bs [] 0 (((ok && decide (t.1=0)) && decide (t.2=0)) && decide (c=0)) acc K
 | [],zs,c,ok,acc,K=>K (acc++zs) c ok
def aEg {β:Type} (M A:FA (Int × Int)):List Int->List Int->List Int->List Int->Bool->(List Int->Bool->Option β)->Option β
 | a :: x,y,d,zs,ok,K=>Tv M A a y zs 0 ok [] λ zs' c ok'=>match zs' with
  | z :: r=>aEg M A x y (d++[z]) r (ok' && decide (c=0)) K
  | []=>none
 | [],y,d,zs,ok,K=>K (d++zs) ok
def aEh:Cg:=⟨⟨dE [(160,qP),(136,jU)],[],dR⟩,[(5,[3,4,5,6,7,16,17],[4,5,6,7]),(9,[3,4,5,6,7,8,9,10,16,17,21,22],[3,4,5,6,7,10,16,17])]⟩
theorem Γ_mul:∀ f A,aEh.c.Γ f=some A->CallOk prog f A:=aA Qx (aA Ix aK)
theorem aTH (a0 a1 a2 a3 a4 a5 a6 a7 b0 b1 b2 b3 b4 b5 b6 b7:Int):bB prog Tryz.f163 aEh 20 [W8 [a0,a1,a2,a3,a4,a5,a6,a7],W8 [b0,b1,b2,b3,b4,b5,b6,b7]]
 =aEg qP.run jU.run [a0,a1,a2,a3,a4,a5,a6,a7] [b0,b1,b2,b3,b4,b5,b6,b7] [] gG true (λ l ok=>some (.tup [.s (.pl (.agg (.ints .u64 l) 8)),.s (.pl (.bool ok))])):=by kernel_rfl
theorem E7 (x y:Nat) (hx:x < 18446744073709551616) (hy:y < 18446744073709551616):qP.run [.int .u64 x,.int .u64 y]=some (((x*y / 18446744073709551616:Nat):Int),((x*y%18446744073709551616:Nat):Int)):=by
 have h1:hO (x:Int)=true:=by simp only [hO,bG]; omega
 have h2:hO (y:Int)=true:=by simp only [hO,bG]; omega
 simp only [qP,h1,h2,Fm,aB];have e:((x:Int)*y / 18446744073709551616,(x:Int)*y%18446744073709551616)=(((x*y / 18446744073709551616:Nat):Int),((x*y%18446744073709551616:Nat):Int)):=by
  rw [<-oA];generalize x*y=p;exact BZ (by show (p:Int) / _=_; omega) (by show (p:Int)%_=_; omega)
 exact dQ some e
theorem Zu (x y c:Nat) (hx:x < 18446744073709551616) (hy:y < 18446744073709551616) (hc:c <= 1):jU.run [.int .u64 x,.int .u64 y,.int .u64 c]=some ((((x+y+c)%18446744073709551616:Nat):Int),(((x+y+c) / 18446744073709551616:Nat):Int)):=by
 have h1:uE x y c=true:=by simp only [uE,aX,bG]; omega
 simp only [jU,h1,aB];have e:(((x:Int)+y+c)%18446744073709551616,((x:Int)+y+c) / 18446744073709551616)=((((x+y+c)%18446744073709551616:Nat):Int),(((x+y+c) / 18446744073709551616:Nat):Int)):=BZ (by show ((x:Int)+y+c)%_=_; omega) (by show ((x:Int)+y+c) / _=_; omega);exact dQ some e
theorem GH (x y:Nat) (hx:x < 18446744073709551616) (hy:y < 18446744073709551616):jU.run [.int .u64 x,.int .u64 y,.int .u64 0]=some ((((x+y)%18446744073709551616:Nat):Int),(((x+y) / 18446744073709551616:Nat):Int)):=Zu x y 0 hx hy (by omega)
theorem aEi {γ:Type} (M D:FA (Int × Int)) (hM:∀ x y:Nat,x < 18446744073709551616->y < 18446744073709551616->M [.int .u64 x,.int .u64 y]=some (((x*y / 18446744073709551616:Nat):Int),((x*y%18446744073709551616:Nat):Int)))
  (hD:∀ x y:Nat,x < 18446744073709551616->y < 18446744073709551616->D [.int .u64 x,.int .u64 y,.int .u64 0]=some ((((x+y)%18446744073709551616:Nat):Int),(((x+y) / 18446744073709551616:Nat):Int))) (A b C z:Nat) (hA:A < 18446744073709551616) (hb:b < 18446744073709551616) (hC:C < 18446744073709551616) (hz:z < 18446744073709551616) (F:Int->Int->Option γ) :
  ((M [.int .u64 A,.int .u64 b]).bind λ t:Int × Int=>(D [.int .u64 t.2,.int .u64 C,.int .u64 0]).bind λ u:Int × Int=>(D [.int .u64 z,.int .u64 u.1,.int .u64 0]).bind λ v:Int × Int=>F (Qw (Qw (t.1+u.2)+v.2)) v.1)
  =F (((A*b+C+z) / 18446744073709551616:Nat):Int) (((A*b+C+z)%18446744073709551616:Nat):Int):=by
 have hab:A*b <= 18446744073709551615*18446744073709551615:=iJ (by omega) (by omega);rw [hM A b hA hb];generalize A*b=p at *;have hhi:p / 18446744073709551616 < 18446744073709551616:=by omega
 have hlo:p%18446744073709551616 < 18446744073709551616:=bK _ (by omega);have key:p=p / 18446744073709551616*18446744073709551616+p%18446744073709551616:=by omega
 generalize p / 18446744073709551616=hi at *;generalize p%18446744073709551616=lo at *;rw [aC,hD lo C hlo hC,aC];have hu1:(lo+C)%18446744073709551616 < 18446744073709551616:=bK _ (by omega);have keyu:lo+C=(lo+C) / 18446744073709551616*18446744073709551616+(lo+C)%18446744073709551616:=by omega
 generalize (lo+C) / 18446744073709551616=u2 at *;generalize (lo+C)%18446744073709551616=u1 at *;rw [hD z u1 hz hu1,aC];have keyv:z+u1=(z+u1) / 18446744073709551616*18446744073709551616+(z+u1)%18446744073709551616:=by omega
 have hv1:(z+u1)%18446744073709551616 < 18446744073709551616:=bK _ (by omega);generalize (z+u1) / 18446744073709551616=v2 at *;generalize (z+u1)%18446744073709551616=v1 at *;have e:Qw (Qw ((hi:Int)+(u2:Int))+(v2:Int))=(((p+C+z) / 18446744073709551616:Nat):Int):=by
  unfold Qw;rw [<-fZ,fM,<-fZ,fM];congr 1;omega
 have e2:v1=(p+C+z)%18446744073709551616:=by omega
 rw [<-e2];exact dQ (λ q=>F q (v1:Int)) e
theorem aKD {β:Type} {A:Nat} (hA:A < 18446744073709551616):∀ (bs zs:List Int) (C:Nat) (ok:Bool) (acc:List Int) (K:List Int->Int->Bool->Option β),qN bs=true->qN zs=true->zs.length <= bs.length->C < 18446744073709551616 ->
  ∃ (c':Int) (ok':Bool),Tv qP.run jU.run A bs zs C ok acc K=K (acc++cQ zs.length (val zs+A*val bs+C)) c' ok' /\ (ok' && decide (c'=0))=(ok && decide (val zs+A*val bs+C < 18446744073709551616 ^ zs.length)):=by
 intro bs
 induction bs with
 | nil=>
  intro zs C ok acc K hb hz hl hC;cases zs with
  | nil=>
   refine ⟨C,ok,by simp [Tv,cQ],?_⟩;have d:decide ((C:Int)=0)=decide (val []+A*val []+C < 18446744073709551616 ^ ([]:List Int).length):=j7.2 (by simp [val]);rw [d]
  | cons _ _=>simp at hl
 | cons b bs ih=>
  intro zs C ok acc K hb hz hl hC;simp only [qN,aX,bG] at hb;obtain ⟨b,rfl⟩:=b9 hb.1.1;have hbl:b < 18446744073709551616:=by omega
  have hab:A*b <= 18446744073709551615*18446744073709551615:=iJ (by omega) (by omega);have hdist:A*(b+18446744073709551616*val bs)=A*b+18446744073709551616*(A*val bs):=by
   rw [uW]; congr 1; rw [<-d9,cG A,d9]
  cases zs with
  | nil=>
   obtain ⟨c',ok',h1,h2⟩:=ih [] 0 (((ok && decide (((A*b / 18446744073709551616:Nat):Int)=0)) && decide (((A*b%18446744073709551616:Nat):Int)=0)) && decide ((C:Int)=0)) acc K hb.2 rfl (by simp) (by omega);refine ⟨c',ok',?_,?_⟩
   ·simp only [Tv,E7 A b hA hbl,aC];exact h1
   ·have d1:decide (val []+A*val bs+0 < 18446744073709551616 ^ ([]:List Int).length)=decide (A*val bs < 1):=j7.2 (by simp [val]);have d2:decide (val []+A*val ((b:Int) :: bs)+C < 18446744073709551616 ^ ([]:List Int).length)=decide (A*b+18446744073709551616*(A*val bs)+C < 1):=j7.2 (by
     simp only [val,PJ,jL,bE,hdist,bS])
    rw [h2,d1,d2];clear h1 h2 d1 d2 hdist ih;generalize A*b=p at *;generalize A*val bs=q at *;cases ok
    ·simp
    ·simp only [jX];rw [J6];simp only [aX,bG];omega
  | cons z zs=>
   simp only [qN,aX,bG] at hz;obtain ⟨z,rfl⟩:=b9 hz.1.1;have hzl:z < 18446744073709551616:=by omega
   have hl':zs.length <= bs.length:=by simpa using hl
   obtain ⟨c',ok',h1,h2⟩:=ih zs ((A*b+C+z) / 18446744073709551616) ok (acc++[(((A*b+C+z)%18446744073709551616:Nat):Int)]) K hb.2 hz.2 hl' (by omega);refine ⟨c',ok',?_,?_⟩
   ·refine (aEi qP.run jU.run E7 GH A b C z hA hbl hC hzl (λ c v=>Tv qP.run jU.run A bs zs c ok (acc++[v]) K)).trans (h1.trans ?_);simp only [val,fF,cQ,bE,hdist,lN,Hk];generalize A*b=p at *;generalize A*val bs=q at *;have f1:(z+18446744073709551616*val zs+(p+18446744073709551616*q)+C)%18446744073709551616=(p+C+z)%18446744073709551616:=by omega
    have f2:(z+18446744073709551616*val zs+(p+18446744073709551616*q)+C) / 18446744073709551616=val zs+q+(p+C+z) / 18446744073709551616:=by omega
    rw [f1,f2]
   ·have d:decide (val zs+A*val bs+(A*b+C+z) / 18446744073709551616 < 18446744073709551616 ^ zs.length)=decide (val ((z:Int) :: zs)+A*val ((b:Int) :: bs)+C < 18446744073709551616 ^ ((z:Int) :: zs).length):=j7.2 (by
     simp only [val,fF,bE,hdist,bM];generalize A*b=p at *;generalize A*val bs=q at *;generalize 18446744073709551616 ^ zs.length=m at *;omega)
    rw [h2,d]
theorem Zv {k m n:Nat} (h:m%18446744073709551616 ^ k=n%18446744073709551616 ^ k):cQ k m=cQ k n:=by
 rw [<-HK k m,<-HK k n,h]
theorem aKE {β:Type} {y:List Int} (hy:qN y=true):∀ (x d zs:List Int) (ok:Bool) (K:List Int->Bool->Option β),qN x=true->qN zs=true->zs.length=x.length->zs.length <= y.length ->
  aEg qP.run jU.run x y d zs ok K=K (d++cQ zs.length (val zs+val x*val y)) (ok && decide (val zs+val x*val y < 18446744073709551616 ^ zs.length)):=by
 intro x
 induction x with
 | nil=>
  intro d zs ok K hx hz hl hy';cases zs with
  | nil=>simp [aEg,cQ,val]
  | cons _ _=>simp at hl
 | cons a x ih=>
  intro d zs ok K hx hz hl hy';cases zs with
  | nil=>simp at hl
  | cons z zs=>
   simp only [qN,aX,bG] at hx;obtain ⟨A,rfl⟩:=b9 hx.1.1;have hl':zs.length=x.length:=by simpa using hl
   simp only [fF] at hy';obtain ⟨c',ok',h1,h2⟩:=aKD (A:=A) (by omega) y (z :: zs) 0 ok [] (λ zs' c ok'=>match zs' with
    | z :: r=>aEg qP.run jU.run x y (d++[z]) r (ok' && decide (c=0)) K
    | []=>none) hy hz (by simpa using hy') (by omega)
   refine h1.trans ?_;simp only [rI,fF,cQ,fH];simp only [fF,fH] at h2;rw [h2];have:=ih (d++[(((val (z :: zs)+A*val y)%18446744073709551616:Nat):Int)]) (cQ zs.length ((val (z :: zs)+A*val y) / 18446744073709551616)) (ok && decide (val (z :: zs)+A*val y < 18446744073709551616 ^ (zs.length+1))) K hx.2 (NX _ _) (by rw [sZ]; exact hl') (by rw [sZ]; omega);rw [this,sZ,NY];have hv:val ((A:Int) :: x)*val y=A*val y+18446744073709551616*(val x*val y):=by
    simp only [val,bE,gL,d9]
   rw [hv,<-sI];generalize val (z :: zs)+A*val y=N at *;generalize val x*val y=X at *;have f1:(N+18446744073709551616*X)%18446744073709551616=N%18446744073709551616:=by omega
   have f2:(N+18446744073709551616*X) / 18446744073709551616=N / 18446744073709551616+X:=by omega
   rw [f1,f2,lN,Hk];congr 1
   ·congr 2;exact Zv (by simp)
   ·rw [Bool.and_assoc];congr 1;have e:18446744073709551616 ^ (z :: zs).length=18446744073709551616 ^ zs.length*18446744073709551616:=by rw [fF,bM]
    by_cases hN:N < 18446744073709551616 ^ (zs.length+1)
    ·have hN':N < 18446744073709551616 ^ zs.length*18446744073709551616:=hN;have h5:N / 18446744073709551616%18446744073709551616 ^ zs.length=N / 18446744073709551616:=aV (by omega);simp only [hN,oF,jX,h5];exact j7.2 (by rw [bM]; omega)
    ·have hN':¬ N < 18446744073709551616 ^ zs.length*18446744073709551616:=hN;have h3:¬ N+18446744073709551616*X < 18446744073709551616 ^ (zs.length+1):=by rw [bM]; omega
     simp only [hN,oE,pC,fF,h3]
def aKF (a b:List Int):Nat × Bool:=(val a*val b,decide (val a*val b < fK))
def aKG:Summ:={ T:=Nat × Bool,run:=Qt aKF,enc:=Iy }
theorem aEj:CallOk prog 163 aKG:=by
 refine jR (g:=aEh) (fu:=λ _=>20) gH Γ_mul Tryz.func163 (by kernel_rfl) ?_;intro args t ht;obtain ⟨a,b,rfl,ha,hb,rfl⟩:=Df ht;have key:=aKE (tA hb) a [] gG true (λ l ok=>some (AV.tup [.s (.pl (.agg (.ints .u64 l) 8)),.s (.pl (.bool ok))])) (tA ha) (by decide) (by rw [uD ha]; rfl) (by rw [uD hb]; simp);simp only [rI,jX,show val gG=0 by decide,bS,show gG.length=8 from rfl,<-pM] at key;have j8:∀ a b:List Int,(some (AV.tup [.s (.pl (.agg (.ints .u64 (cQ 8 (val a*val b))) 8)),.s (.pl (.bool (decide (val a*val b < fK))))]):Option AV)=some (aKG.enc (aKF a b)):=λ _ _=>rfl;rw [j8] at key;obtain ⟨a0,a1,a2,a3,a4,a5,a6,a7,rfl⟩:=wF ha;obtain ⟨b0,b1,b2,b3,b4,b5,b6,b7,rfl⟩:=wF hb;exact (aTH a0 a1 a2 a3 a4 a5 a6 a7 b0 b1 b2 b3 b4 b5 b6 b7).trans key
end
end Go.Eng
