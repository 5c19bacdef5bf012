import Derived.KernelRfl
import Derived.Test.YteipjabipehbpaaGreatEngNums
namespace Go.Eng
open Go.IntKind (u64 i64 u8)
noncomputable section
set_option linter.all false
def val:List Int->Nat
 | []=>0
 | x :: r=>x.toNat+18446744073709551616*val r
def lim:Nat->Nat->List Int
 | 0,_=>[]
 | k+1,n=>((n%18446744073709551616:Nat):Int) :: lim k (n / 18446744073709551616)
def okL:List Int->Bool
 | []=>true
 | x :: r=>decide (0 <= x /\ x < 18446744073709551616) && okL r
def ok8 (a:List Int):Bool:=Nat.beq a.length 8 && okL a
def M512:Nat:=13407807929942597099574024998205846127479365820592393377723561443721764030073546976801874298166903427690031858186486050853753882811946569946433649006084096
theorem M512_eq:M512=18446744073709551616 ^ 8:=by decide +kernel
theorem length_lim (k n:Nat):(lim k n).length=k:=by
 induction k generalizing n with
 | zero=>rfl
 | succ k ih=>simp [lim,ih]
theorem okL_lim (k n:Nat):okL (lim k n)=true:=by
 induction k generalizing n with
 | zero=>rfl
 | succ k ih=>
  simp only [lim,okL,ih,Bool.and_true,decide_eq_true_eq]
  omega
theorem ok8_lim (n:Nat):ok8 (lim 8 n)=true:=by simp [ok8,length_lim,okL_lim]
theorem val_lim (k n:Nat):val (lim k n)=n%18446744073709551616 ^ k:=by
 induction k generalizing n with
 | zero=>simp [lim,val,Nat.mod_one]
 | succ k ih=>
  simp only [lim,val,ih,Int.toNat_natCast]
  rw [Nat.pow_succ,Nat.mul_comm (_ ^ k),Nat.mod_mul]
theorem lim_val:∀ a:List Int,okL a=true->lim a.length (val a)=a:=by
 intro a
 induction a with
 | nil=>intro _; rfl
 | cons x r ih=>
  intro h
  simp only [okL,Bool.and_eq_true,decide_eq_true_eq] at h
  simp only [List.length_cons,lim,val]
  have e1:(x.toNat+18446744073709551616*val r)%18446744073709551616=x.toNat:=by omega
  have e2:(x.toNat+18446744073709551616*val r) / 18446744073709551616=val r:=by omega
  rw [e1,e2,ih h.2]
  congr 1; omega
theorem val_lt:∀ a:List Int,okL a=true->val a < 18446744073709551616 ^ a.length:=by
 intro a
 induction a with
 | nil=>intro _; simp [val]
 | cons x r ih=>
  intro h
  simp only [okL,Bool.and_eq_true,decide_eq_true_eq] at h
  have:=ih h.2
  simp only [List.length_cons,val,Nat.pow_succ]
  have h3:x.toNat < 18446744073709551616:=by omega
  have h4:(val r+1)*18446744073709551616 <= 18446744073709551616 ^ r.length*18446744073709551616:=Nat.mul_le_mul_right _ this
  omega
theorem ok8_len {a:List Int} (h:ok8 a=true):a.length=8:=by
 simp only [ok8,Bool.and_eq_true] at h; exact Nat.eq_of_beq_eq_true h.1
theorem ok8_ok {a:List Int} (h:ok8 a=true):okL a=true:=by
 simp only [ok8,Bool.and_eq_true] at h; exact h.2
theorem lim8_val {a:List Int} (h:ok8 a=true):lim 8 (val a)=a:=by
 have:=lim_val a (ok8_ok h)
 rwa [ok8_len h] at this
theorem val8_lt {a:List Int} (h:ok8 a=true):val a < M512:=by
 have:=val_lt a (ok8_ok h)
 rw [ok8_len h] at this
 rw [M512_eq]; exact this
theorem val_lim8 (n:Nat):val (lim 8 n)=n%M512:=by rw [val_lim,M512_eq]
theorem lim_mod (k n:Nat):lim k (n%18446744073709551616 ^ k)=lim k n:=by
 have:=lim_val (lim k n) (okL_lim k n)
 rw [length_lim,val_lim] at this; exact this
theorem lim8_mod (n:Nat):lim 8 (n%M512)=lim 8 n:=by rw [M512_eq]; exact lim_mod 8 n
theorem list8 {a:List Int} (h:ok8 a=true):∃ a0 a1 a2 a3 a4 a5 a6 a7,a=[a0,a1,a2,a3,a4,a5,a6,a7]:=by
 have:=ok8_len h
 match a,this with
 | [a0,a1,a2,a3,a4,a5,a6,a7],_=>exact ⟨a0,a1,a2,a3,a4,a5,a6,a7,rfl⟩
def addL:List Int->List Int->Int->List Int × Int
 | a :: x,b :: y,c=>let r:=addL x y ((a+b+c) / 18446744073709551616); ((a+b+c)%18446744073709551616 :: r.1,r.2)
 | _,_,c=>([],c)
theorem addL_eq:∀ (x y:List Int) (c:Nat),okL x=true->okL y=true->x.length=y.length->c <= 1 ->
  addL x y c=(lim x.length (val x+val y+c),(((val x+val y+c) / 18446744073709551616 ^ x.length:Nat):Int)):=by
 intro x
 induction x with
 | nil=>intro y c _ _ hl _; cases y <;> simp_all [addL,lim,val]
 | cons a x ih=>
  intro y c hx hy hl hc
  cases y with
  | nil=>simp at hl
  | cons b y=>
   simp only [okL,Bool.and_eq_true,decide_eq_true_eq] at hx hy
   simp only [List.length_cons,Nat.add_right_cancel_iff] at hl
   obtain ⟨A,rfl⟩:=Int.eq_ofNat_of_zero_le hx.1.1
   obtain ⟨Bn,rfl⟩:=Int.eq_ofNat_of_zero_le hy.1.1
   have e:((A:Int)+Bn+c) / 18446744073709551616=(((A+Bn+c) / 18446744073709551616:Nat):Int):=by omega
   have e2:((A:Int)+Bn+c)%18446744073709551616=(((A+Bn+c)%18446744073709551616:Nat):Int):=by omega
   simp only [addL,e,e2]
   rw [ih y _ hx.2 hy.2 hl (by omega)]
   simp only [val,Int.toNat_natCast,lim,List.length_cons]
   have f1:(A+18446744073709551616*val x+(Bn+18446744073709551616*val y)+c)%18446744073709551616=(A+Bn+c)%18446744073709551616:=by omega
   have f2:(A+18446744073709551616*val x+(Bn+18446744073709551616*val y)+c) / 18446744073709551616=val x+val y+(A+Bn+c) / 18446744073709551616:=by omega
   rw [f1,f2,Nat.pow_succ,Nat.mul_comm (_ ^ x.length),<-Nat.div_div_eq_div_mul,f2]
def subL:List Int->List Int->Int->List Int × Int
 | a :: x,b :: y,c=>let r:=subL x y (cond (decide (a < b+c)) 1 0); ((a+18446744073709551616 - b - c)%18446744073709551616 :: r.1,r.2)
 | _,_,c=>([],c)
theorem subL_eq:∀ (x y:List Int) (c:Nat),okL x=true->okL y=true->x.length=y.length->c <= 1 ->
  subL x y c=(lim x.length (val x+18446744073709551616 ^ x.length - val y - c),cond (decide (val x < val y+c)) 1 0):=by
 intro x
 induction x with
 | nil=>
  intro y c _ _ hl hc
  cases y with
  | nil=>
   have:c=0 ∨ c=1:=by omega
   rcases this with rfl | rfl <;> simp [subL,lim,val]
  | cons _ _=>simp at hl
 | cons a x ih=>
  intro y c hx hy hl hc
  cases y with
  | nil=>simp at hl
  | cons b y=>
   have hvy:=val_lt y (by simp only [okL,Bool.and_eq_true] at hy; exact hy.2)
   simp only [okL,Bool.and_eq_true,decide_eq_true_eq] at hx hy
   simp only [List.length_cons,Nat.add_right_cancel_iff] at hl
   rw [<-hl] at hvy
   obtain ⟨A,rfl⟩:=Int.eq_ofNat_of_zero_le hx.1.1
   obtain ⟨Bn,rfl⟩:=Int.eq_ofNat_of_zero_le hy.1.1
   have ih1:=ih y (cond (decide ((A:Int) < Bn+c)) 1 0) hx.2 hy.2 hl (by cases decide ((A:Int) < Bn+c) <;> simp)
   have ec:(((cond (decide ((A:Int) < Bn+c)) 1 0:Nat)):Int)=cond (decide ((A:Int) < Bn+c)) 1 0:=by cases decide ((A:Int) < Bn+c) <;> rfl
   rw [ec] at ih1
   simp only [subL,ih1]
   clear ih ih1
   simp only [val,Int.toNat_natCast,lim,List.length_cons,Nat.pow_succ]
   generalize 18446744073709551616 ^ x.length=p at *
   by_cases hd:(A:Int) < Bn+c
   ·have hd':A < Bn+c:=by omega
    simp only [hd,decide_true,cond_true]
    have g1:(A+18446744073709551616*val x+p*18446744073709551616 - (Bn+18446744073709551616*val y) - c) / 18446744073709551616=val x+p - val y - 1:=by omega
    have g2:((A:Int)+18446744073709551616 - Bn - c)%18446744073709551616=(((A+18446744073709551616*val x+p*18446744073709551616 - (Bn+18446744073709551616*val y) - c)%18446744073709551616:Nat):Int):=by omega
    rw [g1,g2]
    congr 2
    exact decide_eq_decide.2 (by omega)
   ·have hd':¬ A < Bn+c:=by omega
    simp only [hd,decide_false,cond_false]
    have g1:(A+18446744073709551616*val x+p*18446744073709551616 - (Bn+18446744073709551616*val y) - c) / 18446744073709551616=val x+p - val y:=by omega
    have g2:((A:Int)+18446744073709551616 - Bn - c)%18446744073709551616=(((A+18446744073709551616*val x+p*18446744073709551616 - (Bn+18446744073709551616*val y) - c)%18446744073709551616:Nat):Int):=by omega
    rw [g1,g2]
    congr 2
    exact decide_eq_decide.2 (by omega)
theorem wu64 {n:Int} (h0:0 <= n) (h1:n < 18446744073709551616):u64.wrap n=n:=by
 simp [IntKind.wrap,IntKind.bits,IntKind.signed]; omega
theorem wu64n (n:Nat):u64.wrap (n:Int)=((n%18446744073709551616:Nat):Int):=by
 simp [IntKind.wrap,IntKind.bits,IntKind.signed]
theorem wu8n (n:Nat):u8.wrap (n:Int)=((n%256:Nat):Int):=by
 simp [IntKind.wrap,IntKind.bits,IntKind.signed]
theorem wi64 {n:Int} (h0:-9223372036854775808 <= n) (h1:n < 9223372036854775808):i64.wrap n=n:=by
 have e:(2:Int) ^ 64=18446744073709551616:=by decide
 have e2:(2:Int) ^ 63=9223372036854775808:=by decide
 simp only [IntKind.wrap,IntKind.bits,IntKind.signed]
 simp
 omega
theorem shr64 (x n:Nat) (h:n < 64):bShr .u64 (x:Int) (n:Int)=((x / 2 ^ n:Nat):Int):=by
 unfold bShr
 have:min ((n:Int).toNat) (IntKind.bits .u64)=n:=by
  simp [IntKind.bits]; omega
 rw [this,Int.fdiv_eq_ediv_of_nonneg _ (by exact_mod_cast Nat.zero_le _)]
 push_cast
 rfl
theorem shl64 (x n:Nat) (h:n < 64):bShl .u64 (x:Int) (n:Int)=((x*2 ^ n%18446744073709551616:Nat):Int):=by
 unfold bShl
 have:min ((n:Int).toNat) (IntKind.bits .u64)=n:=by
  simp [IntKind.bits]; omega
 rw [this,show ((x:Int)*2 ^ n)=((x*2 ^ n:Nat):Int) by push_cast; rfl,wu64n]
theorem bv64 (x:Nat) (h:x < 18446744073709551616):(BitVec.ofInt 64 (x:Int)).toNat=x:=by
 simp
 omega
theorem and64 (x y:Nat) (hx:x < 18446744073709551616) (hy:y < 18446744073709551616):bAnd .u64 (x:Int) (y:Int)=((x &&& y:Nat):Int):=by
 unfold bAnd
 have e:(BitVec.ofInt (IntKind.bits .u64) (x:Int) &&& BitVec.ofInt (IntKind.bits .u64) (y:Int)).toNat=x &&& y:=by
  show (BitVec.ofInt 64 (x:Int) &&& BitVec.ofInt 64 (y:Int)).toNat=x &&& y
  rw [BitVec.toNat_and,bv64 x hx,bv64 y hy]
 rw [e,wu64n,Nat.mod_eq_of_lt]
 exact Nat.lt_of_le_of_lt Nat.and_le_left hx
theorem or64 (x y:Nat) (hx:x < 18446744073709551616) (hy:y < 18446744073709551616):bOr .u64 (x:Int) (y:Int)=((x ||| y:Nat):Int):=by
 unfold bOr
 have e:(BitVec.ofInt (IntKind.bits .u64) (x:Int) ||| BitVec.ofInt (IntKind.bits .u64) (y:Int)).toNat=x ||| y:=by
  show (BitVec.ofInt 64 (x:Int) ||| BitVec.ofInt 64 (y:Int)).toNat=x ||| y
  rw [BitVec.toNat_or,bv64 x hx,bv64 y hy]
 rw [e,wu64n,Nat.mod_eq_of_lt]
 exact Nat.or_lt_two_pow (n:=64) hx hy
theorem and1 (x:Nat) (hx:x < 18446744073709551616):bAnd .u64 (x:Int) 1=((x%2:Nat):Int):=by
 rw [show (1:Int)=((1:Nat):Int) from rfl,and64 x 1 hx (by omega),Nat.and_one_is_mod]
theorem and32 (x:Nat) (hx:x < 18446744073709551616):bAnd .u64 (x:Int) 4294967295=((x%4294967296:Nat):Int):=by
 rw [show (4294967295:Int)=((4294967295:Nat):Int) from rfl,and64 x _ hx (by omega)]
 rw [show (4294967295:Nat)=2 ^ 32 - 1 from rfl,Nat.and_two_pow_sub_one_eq_mod]
theorem or_pow (x r:Nat) (hx:x < 2 ^ r):x ||| 2 ^ r=x+2 ^ r:=by
 have:=Nat.two_pow_add_eq_or_of_lt hx 1
 rw [Nat.mul_one] at this
 rw [Nat.or_comm,<-this,Nat.add_comm]
theorem getD_lim:∀ (k q n:Nat),q < k->(lim k n).getD q 0=((n / 18446744073709551616 ^ q%18446744073709551616:Nat):Int):=by
 intro k
 induction k with
 | zero=>intro q n h; omega
 | succ k ih=>
  intro q n h
  cases q with
  | zero=>simp [lim]
  | succ q=>
   simp only [lim,List.getD_cons_succ]
   rw [ih q _ (by omega),Nat.pow_succ,Nat.mul_comm (_ ^ q),Nat.div_div_eq_div_mul]
theorem set_lim:∀ (k q n m:Nat),q < k->n / 18446744073709551616 ^ q+m < 18446744073709551616 ->
  (lim k n).set q (((n / 18446744073709551616 ^ q+m:Nat)):Int)=lim k (n+18446744073709551616 ^ q*m):=by
 intro k
 induction k with
 | zero=>intro q n m h; omega
 | succ k ih=>
  intro q n m h hm
  cases q with
  | zero=>
   simp only [Nat.pow_zero,Nat.div_one,Nat.one_mul] at hm ⊢
   simp only [lim,List.set_cons_zero]
   rw [Nat.mod_eq_of_lt hm,Nat.div_eq_of_lt hm,Nat.div_eq_of_lt (by omega:n < 18446744073709551616)]
  | succ q=>
   simp only [lim,List.set_cons_succ]
   have e1:n / 18446744073709551616 ^ (q+1)=n / 18446744073709551616 / 18446744073709551616 ^ q:=by
    rw [Nat.pow_succ,Nat.mul_comm (_ ^ q),Nat.div_div_eq_div_mul]
   rw [e1] at hm ⊢
   rw [ih q (n / 18446744073709551616) m (by omega) hm]
   have e2:n+18446744073709551616 ^ (q+1)*m=n+18446744073709551616*(18446744073709551616 ^ q*m):=by
    rw [Nat.pow_succ,Nat.mul_comm (_ ^ q),Nat.mul_assoc]
   rw [e2]
   congr 1
   ·congr 1; omega
   ·congr 1; omega
theorem B_pow (q:Nat):18446744073709551616 ^ q=2 ^ (64*q):=by rw [Nat.pow_mul]
theorem bit_lim (n q r:Nat) (hr:r < 64):n / 18446744073709551616 ^ q%18446744073709551616 / 2 ^ r%2=n / 2 ^ (64*q+r)%2:=by
 rw [B_pow,Nat.pow_add,<-Nat.div_div_eq_div_mul]
 generalize n / 2 ^ (64*q)=x
 have e:18446744073709551616=2 ^ r*(2*2 ^ (63 - r)):=by
  rw [<-Nat.pow_succ',<-Nat.pow_add,show r+(63 - r).succ=64 by omega]
 rw [e,Nat.mod_mul_right_div_self,Nat.mod_mul_right_mod]
open Go Go.Proofs
def W8 (l:List Int):AV:=.s (.pl (.agg (.ints .u64 l) 8))
def fu0:Nat:=1000000
abbrev enc2 (t:Int × Int):AV:=.tup [.s (.pl (.int .u64 t.1)),.s (.pl (.int .u64 t.2))]
def carryOk (x y c:Int):Bool:=decide (0 <= x) && decide (0 <= y) && decide (0 <= c) && decide (c <= 1) && decide (x < 18446744073709551616) && decide (y < 18446744073709551616)
def sAdd64:Summ where
 T:=Int × Int
 run:=fun
  | [.c (.s (.pl (.int .u64 x))),.c (.s (.pl (.int .u64 y))),.c (.s (.pl (.int .u64 c)))]=>cond (carryOk x y c) (some ((x+y+c)%18446744073709551616,(x+y+c) / 18446744073709551616)) none
  | _=>none
 enc:=enc2
def sSub64:Summ where
 T:=Int × Int
 run:=fun
  | [.c (.s (.pl (.int .u64 x))),.c (.s (.pl (.int .u64 y))),.c (.s (.pl (.int .u64 c)))]=>cond (carryOk x y c) (some ((x+18446744073709551616 - y - c)%18446744073709551616,cond (decide (x < y+c)) 1 0)) none
  | _=>none
 enc:=enc2
theorem enc2_ok {w:World} {ρ:Plc} (a b:Int):AVR w ρ (enc2 (a,b)) (.tuple #[.int .u64 a,.int .u64 b]):=by
 refine ⟨_,rfl,rfl,fun i x v hx hv=>?_⟩
 match i with
 | 0=>simp at hx hv; subst hx; subst hv; exact ⟨rfl,fun _ _ e=>by cases e⟩
 | 1=>simp at hx hv; subst hx; subst hv; exact ⟨rfl,fun _ _ e=>by cases e⟩
 | i+2=>simp at hx
theorem three_int {w:World} {ρ:Plc} {k:IntKind} {x y c:Int} {vs:List Value} (h:AVRs w ρ [.int k x,.int k y,.int k c] vs):vs=[.int k x,.int k y,.int k c]:=by
 match vs,h with
 | [u,v,z],⟨h1,h2,h3,_⟩=>rw [h1.ofInt,h2.ofInt,h3.ofInt]
 | [],h=>simp [AVRs] at h
 | [_],h=>simp [AVRs] at h
 | [_,_],h=>simp [AVRs] at h
 | _ :: _ :: _ :: _ :: _,h=>simp [AVRs] at h
theorem ok_Add64:CallOk prog nF92 sAdd64:=by
 refine CallOk.extern (e:=add64Entry) hF92 (by kernel_rfl) (by kernel_rfl) (by kernel_rfl) (by kernel_rfl) ?_
 intro args t ht
 simp only [sAdd64] at ht
 split at ht
 ·rename_i x y c
  obtain ⟨h1,h2⟩:=ctrue ht
  simp only [carryOk,Bool.and_eq_true,decide_eq_true_eq] at h1
  cases h2
  refine ⟨rfl,fun w X vs hargs=>?_⟩
  rw [three_int hargs]
  exact ⟨_,run_add64 x y c (by omega) (by omega) (by omega) (by omega) w,enc2_ok _ _⟩
 ·simp at ht
def subE:Array Value->Sem Value:=(Extern.MathBitsCarry.rows[1]'(by decide)).2
theorem run_subE {P:Program} (x y b:Nat) (hb:b <= 1) (w:World):(subE #[.int .u64 x,.int .u64 y,.int .u64 b]).run P w =
  .ok (.tuple #[.int .u64 (((x+18446744073709551616 - y - b)%18446744073709551616:Nat):Int),.int .u64 ((if x < y+b then 1 else 0:Nat):Int)]) w:=by
 have:b=0 ∨ b=1:=by omega
 rcases this with rfl | rfl <;> rfl
theorem ok_Sub64:CallOk prog nF127 sSub64:=by
 refine CallOk.extern (e:=subE) hF127 (by kernel_rfl) (by kernel_rfl) (by kernel_rfl) (by kernel_rfl) ?_
 intro args t ht
 simp only [sSub64] at ht
 split at ht
 ·rename_i x y c
  obtain ⟨h1,h2⟩:=ctrue ht
  simp only [carryOk,Bool.and_eq_true,decide_eq_true_eq] at h1
  cases h2
  refine ⟨rfl,fun w X vs hargs=>?_⟩
  rw [three_int hargs]
  obtain ⟨x,rfl⟩:=Int.eq_ofNat_of_zero_le h1.1.1.1.1.1
  obtain ⟨y,rfl⟩:=Int.eq_ofNat_of_zero_le h1.1.1.1.1.2
  obtain ⟨c,rfl⟩:=Int.eq_ofNat_of_zero_le h1.1.1.1.2
  refine ⟨_,run_subE x y c (by omega) w,?_⟩
  have e1:((((x+18446744073709551616 - y - c)%18446744073709551616:Nat)):Int)=((x:Int)+18446744073709551616 - y - c)%18446744073709551616:=by omega
  have e2:(((if x < y+c then 1 else 0:Nat)):Int)=cond (decide ((x:Int) < y+c)) 1 0:=by
   by_cases h:x < y+c
   ·have:(x:Int) < y+c:=by omega
    simp [h,this]
   ·have:¬ (x:Int) < y+c:=by omega
    simp [h,this]
  rw [e1,e2]
  exact enc2_ok _ _
 ·simp at ht
def chain {β:Type} (A:List AV->Option (Int × Int)):List Int->List Int->Int->List Int->(List Int->Int->Option β)->Option β
 | a :: xs,b :: ys,c,acc,K=>(A [.int .u64 a,.int .u64 b,.int .u64 c]).bind fun t=>chain A xs ys t.2 (acc++[t.1]) K
 | _,_,c,acc,K=>K acc c
def g_both:Cg:=⟨⟨gam [(nF92,sAdd64),(nF127,sSub64)],[],noE⟩,[(5,[2,3,4,6,7,8,9,10,11],[6,7,8,9])]⟩
theorem Γ_both:∀ f A,g_both.c.Γ f=some A->CallOk prog f A:=gam_cons ok_Add64 (gam_cons ok_Sub64 gam_nil)
theorem ev_both_add (a0 a1 a2 a3 a4 a5 a6 a7 b0 b1 b2 b3 b4 b5 b6 b7:Int):afunc prog fF91 g_both fu0 [W8 [a0,a1,a2,a3,a4,a5,a6,a7],W8 [b0,b1,b2,b3,b4,b5,b6,b7],.s (.clo nF92 [] [])]
 =chain sAdd64.run [a0,a1,a2,a3,a4,a5,a6,a7] [b0,b1,b2,b3,b4,b5,b6,b7] 0 [] (fun l c=>some (.tup [.s (.pl (.agg (.ints .u64 l) 8)),.s (.pl (.bool (decide (c=0))))])):=by kernel_rfl
theorem ev_both_sub (a0 a1 a2 a3 a4 a5 a6 a7 b0 b1 b2 b3 b4 b5 b6 b7:Int):afunc prog fF91 g_both fu0 [W8 [a0,a1,a2,a3,a4,a5,a6,a7],W8 [b0,b1,b2,b3,b4,b5,b6,b7],.s (.clo nF127 [] [])]
 =chain sSub64.run [a0,a1,a2,a3,a4,a5,a6,a7] [b0,b1,b2,b3,b4,b5,b6,b7] 0 [] (fun l c=>some (.tup [.s (.pl (.agg (.ints .u64 l) 8)),.s (.pl (.bool (decide (c=0))))])):=by kernel_rfl
theorem chain_add {β:Type} {K:List Int->Int->Option β}:∀ (x y:List Int) (c:Int) (acc:List Int),okL x=true->okL y=true->x.length=y.length->0 <= c->c <= 1 ->
  chain sAdd64.run x y c acc K=K (acc++(addL x y c).1) (addL x y c).2:=by
 intro x
 induction x with
 | nil=>intro y c acc hx hy hl h0 h1; cases y <;> simp_all [chain,addL]
 | cons a x ih=>
  intro y c acc hx hy hl h0 h1
  cases y with
  | nil=>simp at hl
  | cons b y=>
   simp only [okL,Bool.and_eq_true,decide_eq_true_eq] at hx hy
   simp only [List.length_cons,Nat.add_right_cancel_iff] at hl
   have e:sAdd64.run [.int .u64 a,.int .u64 b,.int .u64 c]=some ((a+b+c)%18446744073709551616,(a+b+c) / 18446744073709551616):=by
    simp [sAdd64,carryOk,hx.1.1,hx.1.2,hy.1.1,hy.1.2,h0,h1]
   simp only [chain,e,Option.bind_some]
   rw [ih y _ _ hx.2 hy.2 hl (by omega) (by omega)]
   simp [addL]
theorem chain_sub {β:Type} {K:List Int->Int->Option β}:∀ (x y:List Int) (c:Int) (acc:List Int),okL x=true->okL y=true->x.length=y.length->0 <= c->c <= 1 ->
  chain sSub64.run x y c acc K=K (acc++(subL x y c).1) (subL x y c).2:=by
 intro x
 induction x with
 | nil=>intro y c acc hx hy hl h0 h1; cases y <;> simp_all [chain,subL]
 | cons a x ih=>
  intro y c acc hx hy hl h0 h1
  cases y with
  | nil=>simp at hl
  | cons b y=>
   simp only [okL,Bool.and_eq_true,decide_eq_true_eq] at hx hy
   simp only [List.length_cons,Nat.add_right_cancel_iff] at hl
   have e:sSub64.run [.int .u64 a,.int .u64 b,.int .u64 c]=some ((a+18446744073709551616 - b - c)%18446744073709551616,cond (decide (a < b+c)) 1 0):=by
    simp [sSub64,carryOk,hx.1.1,hx.1.2,hy.1.1,hy.1.2,h0,h1]
   simp only [chain,e,Option.bind_some]
   rw [ih y _ _ hx.2 hy.2 hl (by cases decide (a < b+c) <;> simp) (by cases decide (a < b+c) <;> simp)]
   simp [subL]
abbrev encWB (t:Nat × Bool):AV:=.tup [.s (.pl (.agg (.ints .u64 (lim 8 t.1)) 8)),.s (.pl (.bool t.2))]
def sumW (a b:List Int):Nat × Bool:=(val a+val b,decide (val a+val b < M512))
def difW (a b:List Int):Nat × Bool:=(val a+M512 - val b,decide (val b <= val a))
theorem sum_enc (A B:Nat):(some (AV.tup [.s (.pl (.agg (.ints .u64 (lim 8 (A+B))) 8)),.s (.pl (.bool (decide ((((A+B) / M512:Nat):Int)=((0:Nat):Int)))))]):Option AV)=some (encWB (A+B,decide (A+B < M512))):=by
 have:decide ((((A+B) / M512:Nat):Int)=((0:Nat):Int))=decide (A+B < M512):=by
  refine decide_eq_decide.2 ?_
  rw [Int.natCast_inj,Nat.div_eq_zero_iff]
  have:M512 ≠ 0:=by decide +kernel
  omega
 rw [this]
def sBoth:Summ where
 T:=Nat × Bool
 run:=fun
  | [.c (.s (.pl (.agg (.ints .u64 a) 8))),.c (.s (.pl (.agg (.ints .u64 b) 8))),.c (.s (.clo f [] []))]=>cond (ok8 a && ok8 b) (cond (Nat.beq f nF92) (some (sumW a b)) (cond (Nat.beq f nF127) (some (difW a b)) none)) none
  | _=>none
 enc:=encWB
theorem ok_both:CallOk prog nF91 sBoth:=by
 refine afunc_ok (g:=g_both) (fu:=fun _=>fu0) mixed Γ_both hF91 (by kernel_rfl) ?_
 intro args t ht
 simp only [sBoth] at ht
 split at ht
 ·rename_i a b f
  obtain ⟨h1,h2⟩:=ctrue ht
  simp only [Bool.and_eq_true] at h1
  have ha:=ok8_ok h1.1
  have hb:=ok8_ok h1.2
  have la:=ok8_len h1.1
  have lb:=ok8_len h1.2
  have va:=val8_lt h1.1
  have vb:=val8_lt h1.2
  cases hf:Nat.beq f nF92
  ·rw [hf] at h2
   simp only [cond_false] at h2
   obtain ⟨h3,h4⟩:=ctrue h2
   have:f=nF127:=Nat.eq_of_beq_eq_true h3
   subst this
   cases h4
   have key:=chain_sub (K:=fun l c=>some (AV.tup [.s (.pl (.agg (.ints .u64 l) 8)),.s (.pl (.bool (decide (c=0))))])) a b 0 [] ha hb (by omega) (by omega) (by omega)
   rw [show ((0:Int))=((0:Nat):Int) from rfl,subL_eq a b 0 ha hb (by omega) (by omega),la] at key
   obtain ⟨a0,a1,a2,a3,a4,a5,a6,a7,rfl⟩:=list8 h1.1
   obtain ⟨b0,b1,b2,b3,b4,b5,b6,b7,rfl⟩:=list8 h1.2
   refine (ev_both_sub a0 a1 a2 a3 a4 a5 a6 a7 b0 b1 b2 b3 b4 b5 b6 b7).trans (key.trans ?_)
   simp only [List.nil_append,Nat.sub_zero,Nat.add_zero,<-M512_eq,difW]
   by_cases hc:val [a0,a1,a2,a3,a4,a5,a6,a7] < val [b0,b1,b2,b3,b4,b5,b6,b7]
   ·have hc':¬ val [b0,b1,b2,b3,b4,b5,b6,b7] <= val [a0,a1,a2,a3,a4,a5,a6,a7]:=by omega
    simp [hc,hc']; rfl
   ·have hc':val [b0,b1,b2,b3,b4,b5,b6,b7] <= val [a0,a1,a2,a3,a4,a5,a6,a7]:=by omega
    simp [hc,hc']; rfl
  ·rw [hf] at h2
   have:f=nF92:=Nat.eq_of_beq_eq_true hf
   subst this
   cases h2
   have key:=chain_add (K:=fun l c=>some (AV.tup [.s (.pl (.agg (.ints .u64 l) 8)),.s (.pl (.bool (decide (c=0))))])) a b 0 [] ha hb (by omega) (by omega) (by omega)
   rw [show ((0:Int))=((0:Nat):Int) from rfl,addL_eq a b 0 ha hb (by omega) (by omega),la] at key
   obtain ⟨a0,a1,a2,a3,a4,a5,a6,a7,rfl⟩:=list8 h1.1
   obtain ⟨b0,b1,b2,b3,b4,b5,b6,b7,rfl⟩:=list8 h1.2
   refine (ev_both_add a0 a1 a2 a3 a4 a5 a6 a7 b0 b1 b2 b3 b4 b5 b6 b7).trans (key.trans ?_)
   simp only [List.nil_append,Nat.add_zero,<-M512_eq,sumW]
   exact sum_enc _ _
 ·simp at ht
def g_addsub:Cg:=⟨⟨gam [(nF91,sBoth)],[],noE⟩,[]⟩
theorem Γ_addsub:∀ f A,g_addsub.c.Γ f=some A->CallOk prog f A:=gam_cons ok_both gam_nil
def run2 {T:Type} (F:List Int->List Int->T):List AV->Option T
 | [.c (.s (.pl (.agg (.ints .u64 a) 8))),.c (.s (.pl (.agg (.ints .u64 b) 8)))]=>cond (ok8 a && ok8 b) (some (F a b)) none
 | _=>none
theorem run2_ok {T:Type} {F:List Int->List Int->T} {args:List AV} {t:T} (h:run2 F args=some t):∃ a b,args=[W8 a,W8 b] /\ ok8 a=true /\ ok8 b=true /\ t=F a b:=by
 unfold run2 at h
 split at h
 ·rename_i a b
  obtain ⟨h1,h2⟩:=ctrue h
  simp only [Bool.and_eq_true] at h1
  cases h2
  exact ⟨a,b,rfl,h1.1,h1.2,rfl⟩
 ·cases h
def sAdd:Summ:={ T:=Nat × Bool,run:=run2 sumW,enc:=encWB }
def sSub:Summ:={ T:=Nat × Bool,run:=run2 difW,enc:=encWB }
theorem ev_Add (a b:List Int):afunc prog fF49 g_addsub fu0 [W8 a,W8 b]=(sBoth.run [W8 a,W8 b,.s (.clo nF92 [] [])]).bind fun t=>some (encWB t):=by kernel_rfl
theorem ev_Sub (a b:List Int):afunc prog fF97 g_addsub fu0 [W8 a,W8 b]=(sBoth.run [W8 a,W8 b,.s (.clo nF127 [] [])]).bind fun t=>some (encWB t):=by kernel_rfl
theorem both_run_add {a b:List Int} (ha:ok8 a=true) (hb:ok8 b=true):sBoth.run [W8 a,W8 b,.s (.clo nF92 [] [])]=some (sumW a b):=by
 show cond (ok8 a && ok8 b) _ none=_
 rw [ha,hb]; rfl
theorem both_run_sub {a b:List Int} (ha:ok8 a=true) (hb:ok8 b=true):sBoth.run [W8 a,W8 b,.s (.clo nF127 [] [])]=some (difW a b):=by
 show cond (ok8 a && ok8 b) _ none=_
 rw [ha,hb]; rfl
theorem ok_Add:CallOk prog nF49 sAdd:=by
 refine afunc_ok (g:=g_addsub) (fu:=fun _=>fu0) mixed Γ_addsub hF49 (by kernel_rfl) ?_
 intro args t ht
 obtain ⟨a,b,rfl,ha,hb,rfl⟩:=run2_ok ht
 rw [ev_Add,both_run_add ha hb]; rfl
theorem ok_Sub:CallOk prog nF97 sSub:=by
 refine afunc_ok (g:=g_addsub) (fu:=fun _=>fu0) mixed Γ_addsub hF97 (by kernel_rfl) ?_
 intro args t ht
 obtain ⟨a,b,rfl,ha,hb,rfl⟩:=run2_ok ht
 rw [ev_Sub,both_run_sub ha hb]; rfl
def g_cmp:Cg:=⟨⟨gam [],[],noE⟩,[(3,[2,3,4,5],[4])]⟩
def cmpL:List Int->List Int->Option AV
 | a :: x,b :: y=>cond (decide (a < b)) (some (.int .i64 (-1))) (cond (decide (b < a)) (some (.int .i64 1)) (cmpL x y))
 | _,_=>some (.int .i64 0)
theorem ev_Cmp (a0 a1 a2 a3 a4 a5 a6 a7 b0 b1 b2 b3 b4 b5 b6 b7:Int):afunc prog fF96 g_cmp fu0 [W8 [a0,a1,a2,a3,a4,a5,a6,a7],W8 [b0,b1,b2,b3,b4,b5,b6,b7]]=cmpL [a7,a6,a5,a4,a3,a2,a1,a0] [b7,b6,b5,b4,b3,b2,b1,b0]:=by kernel_rfl
theorem ev_Of (n:Int):afunc prog fF79 g_cmp fu0 [.int .u64 n]=some (W8 [n,0,0,0,0,0,0,0]):=by kernel_rfl
def cmpN (x y:Nat):Int:=cond (decide (x < y)) (-1) (cond (decide (y < x)) 1 0)
def revVal:List Int->Nat->Nat
 | [],s=>s
 | x :: r,s=>revVal r (x.toNat+18446744073709551616*s)
theorem cmpL_eq:∀ (x y:List Int),okL x=true->okL y=true->x.length=y.length->∀ s,cmpL x y=some (.int .i64 (cmpN (revVal x s) (revVal y s))):=by
 have key:∀ (x y:List Int),okL x=true->okL y=true->x.length=y.length->∀ s t,s < t->revVal x s < revVal y t:=by
  intro x
  induction x with
  | nil=>intro y _ _ hl s t h; cases y with
   | nil=>simpa [revVal] using h
   | cons _ _=>simp at hl
  | cons a x ih=>
   intro y hx hy hl s t h
   cases y with
   | nil=>simp at hl
   | cons b y=>
    simp only [okL,Bool.and_eq_true,decide_eq_true_eq] at hx hy
    simp only [revVal]
    exact ih y hx.2 hy.2 (by simpa using hl) _ _ (by omega)
 intro x
 induction x with
 | nil=>intro y _ _ hl s; cases y with
  | nil=>simp [cmpL,revVal,cmpN]
  | cons _ _=>simp at hl
 | cons a x ih=>
  intro y hx hy hl s
  cases y with
  | nil=>simp at hl
  | cons b y=>
   simp only [okL,Bool.and_eq_true,decide_eq_true_eq] at hx hy
   simp only [cmpL,revVal]
   have hl':x.length=y.length:=by simpa using hl
   by_cases h1:a < b
   ·have:=key x y hx.2 hy.2 hl' (a.toNat+18446744073709551616*s) (b.toNat+18446744073709551616*s) (by omega)
    simp [h1,cmpN,this]
   ·by_cases h2:b < a
    ·have:=key y x hy.2 hx.2 hl'.symm (b.toNat+18446744073709551616*s) (a.toNat+18446744073709551616*s) (by omega)
     have h3:¬ revVal x (a.toNat+18446744073709551616*s) < revVal y (b.toNat+18446744073709551616*s):=by omega
     simp [h1,h2,cmpN,this,h3]
    ·have:a=b:=by omega
     subst this
     simp only [h1,decide_false,cond_false]
     exact ih y hx.2 hy.2 hl' _
theorem revVal_8 (a0 a1 a2 a3 a4 a5 a6 a7:Int):revVal [a7,a6,a5,a4,a3,a2,a1,a0] 0=val [a0,a1,a2,a3,a4,a5,a6,a7]:=by
 simp [revVal,val]
theorem okL_rev {a0 a1 a2 a3 a4 a5 a6 a7:Int} (h:okL [a0,a1,a2,a3,a4,a5,a6,a7]=true):okL [a7,a6,a5,a4,a3,a2,a1,a0]=true:=by
 simp only [okL,Bool.and_eq_true,decide_eq_true_eq,Bool.and_true] at h ⊢
 simp [h]
def sCmp:Summ:={ T:=Int,run:=run2 fun a b=>cmpN (val a) (val b),enc:=fun t=>.int .i64 t }
theorem ok_Cmp:CallOk prog nF96 sCmp:=by
 refine afunc_ok (g:=g_cmp) (fu:=fun _=>fu0) mixed gam_nil hF96 (by kernel_rfl) ?_
 intro args t ht
 obtain ⟨a,b,rfl,ha,hb,rfl⟩:=run2_ok ht
 have ha':=ok8_ok ha
 have hb':=ok8_ok hb
 obtain ⟨a0,a1,a2,a3,a4,a5,a6,a7,rfl⟩:=list8 ha
 obtain ⟨b0,b1,b2,b3,b4,b5,b6,b7,rfl⟩:=list8 hb
 rw [ev_Cmp,cmpL_eq _ _ (okL_rev ha') (okL_rev hb') rfl 0,revVal_8,revVal_8]
 rfl
def sOf:Summ where
 T:=Int
 run:=fun
  | [.c (.s (.pl (.int .u64 n)))]=>some n
  | _=>none
 enc:=fun n=>W8 [n,0,0,0,0,0,0,0]
theorem ok_Of:CallOk prog nF79 sOf:=by
 refine afunc_ok (g:=g_cmp) (fu:=fun _=>fu0) mixed gam_nil hF79 (by kernel_rfl) ?_
 intro args t ht
 simp only [sOf] at ht
 split at ht
 ·cases ht
  exact ev_Of _
 ·cases ht
abbrev inB (i:Int):Bool:=decide (0 <= i64.wrap (i.tdiv 64) /\ i64.wrap (i.tdiv 64) < ((8:Nat):Int))
abbrev offB (i:Int):Nat:=0+(i64.wrap (i.tdiv 64)).toNat
theorem ev_Bit (a:List Int) (i:Int):afunc prog fF95 g_cmp fu0 [W8 a,.int .i64 i] =
  cond (decide (i < 0) || decide (512 <= i)) (some (.int .u64 0)) (cond (inB i) (cond (decide (i.tmod 64 < 0)) none (some (.int .u64 (bAnd .u64 (bShr .u64 (a.getD (offB i) 0) (i.tmod 64)) 1)))) none):=by kernel_rfl
def bitN (n:Nat) (i:Int):Nat:=cond (decide (i < 0)) 0 (n / 2 ^ i.toNat%2)
def sBit:Summ where
 T:=Nat
 run:=fun
  | [.c (.s (.pl (.agg (.ints .u64 a) 8))),.c (.s (.pl (.int .i64 i)))]=>cond (ok8 a) (some (bitN (val a) i)) none
  | _=>none
 enc:=fun n=>.int .u64 n
theorem idx64 (j:Nat) (h:j < 512):inB j=true /\ offB j=j / 64 /\ (j:Int).tmod 64=((j%64:Nat):Int):=by
 have e1:(j:Int).tdiv 64=((j / 64:Nat):Int):=by rw [Int.tdiv_eq_ediv_of_nonneg (by omega)]; rfl
 have e2:(j:Int).tmod 64=((j%64:Nat):Int):=by rw [Int.tmod_eq_emod_of_nonneg (by omega)]; rfl
 have e3:i64.wrap ((j:Int).tdiv 64)=((j / 64:Nat):Int):=by rw [e1,wi64 (by omega) (by omega)]
 refine ⟨?_,?_,e2⟩
 ·simp only [inB,e3,decide_eq_true_eq]; omega
 ·simp only [offB,e3]; omega
theorem pow_le_aux (q j:Nat) (h:64*q <= j):18446744073709551616 ^ q <= 2 ^ j:=by
 rw [B_pow]; exact Nat.pow_le_pow_right (by omega) h
theorem ok_Bit:CallOk prog nF95 sBit:=by
 refine afunc_ok (g:=g_cmp) (fu:=fun _=>fu0) mixed gam_nil hF95 (by kernel_rfl) ?_
 intro args t ht
 simp only [sBit] at ht
 split at ht
 ·rename_i a i
  obtain ⟨ha,h2⟩:=ctrue ht
  cases h2
  refine (ev_Bit a i).trans ?_
  by_cases h0:i < 0
  ·simp [h0,bitN,sBit]
  ·obtain ⟨j,rfl⟩:=Int.eq_ofNat_of_zero_le (by omega:0 <= i)
   by_cases h1:512 <= (j:Int)
   ·have hz:val a / 2 ^ j=0:=by
     refine Nat.div_eq_of_lt (Nat.lt_of_lt_of_le (val8_lt ha) ?_)
     rw [M512_eq]
     exact pow_le_aux 8 j (by omega)
    simp [h1,bitN,sBit,hz]
   ·obtain ⟨g1,g2,g3⟩:=idx64 j (by omega)
    have hneg:¬ (((j%64:Nat):Int) < 0):=by omega
    have eb:bAnd .u64 (bShr .u64 (a.getD (j / 64) 0) ((j%64:Nat):Int)) 1=((val a / 2 ^ j%2:Nat):Int):=by
     rw [<-lim8_val ha,getD_lim 8 (j / 64) _ (by omega),shr64 _ _ (Nat.mod_lt _ (by omega)),and1,bit_lim _ _ _ (Nat.mod_lt _ (by omega)),lim8_val ha]
     ·rw [show 64*(j / 64)+j%64=j by omega]
     ·exact Nat.lt_of_le_of_lt (Nat.div_le_self _ _) (Nat.mod_lt _ (by omega))
    simp only [g1,g2,g3,h0,h1,hneg,decide_false,Bool.or_self,cond_false,cond_true,eb]
    show some (AV.int .u64 _)=some (AV.int .u64 ((bitN (val a) j:Nat):Int))
    simp only [bitN,h0,decide_false,cond_false,Int.toNat_natCast]
 ·cases ht
def tW:TypeId:=fF79.resultTypes.getD 0 0
def g_shift:Cg:=⟨⟨gam [(nF95,sBit)],[],noE⟩,[(6,[1,2,4,5,14],[4,5])]⟩
theorem Γ_shift:∀ f A,g_shift.c.Γ f=some A->CallOk prog f A:=gam_cons ok_Bit gam_nil
abbrev pShift:List Nat:=[1,1,1,0,1,2]
abbrev zero8:List Int:=[0,0,0,0,0,0,0,0]
def encS (a o:List Int) (sh i:Int):St :=
 {tm:=[(1,.int .i64 sh),(2,.s (.ptr 0 0 8)),(4,.s (.ptr 1 0 8)),(5,.s (.ptr 2 0 8)),(14,.int .i64 i)],
  hp:=[(0,⟨tW,8,.t (.ints .u64 a)⟩),(1,⟨tW,8,.t (.ints .u64 zero8)⟩),(2,⟨tW,8,.t (.ints .u64 o)⟩)],nx:=3,sz:=34 }
def outS (o:List Int):St :=
 {tm:=[(4,.s (.ptr 0 0 8)),(5,.s (.ptr 1 0 8))],hp:=[(0,⟨tW,8,.t (.ints .u64 zero8)⟩),(1,⟨tW,8,.t (.ints .u64 o)⟩)],nx:=2,sz:=34 }
theorem ev_Shift (fu:Nat) (a:List Int) (sh:Int):afunc prog fF123 g_shift fu [W8 a,.int .i64 sh] =
  cond (decide (512 <= sh) || decide (sh <= -512)) (some (W8 zero8)) (loopA prog g_shift fu fF123 pShift (loopK prog g_shift fu fF123 pShift) fu (some (encS a zero8 sh 0))):=by kernel_rfl
theorem ev_Shift_out (fu:Nat) (o:List Int):loopK prog g_shift fu fF123 pShift (.exit 0) (outS o)=some (W8 o):=by kernel_rfl
theorem ev_Shift_step (fu:Nat) (a o:List Int) (sh i:Int) (G:Option St->Option AV) (H:Ex->Option St->Option AV):loopR prog g_shift fu fF123 pShift G H (encS a o sh i) =
  cond (decide (i < 512)) ((sBit.run [W8 a,.int .i64 (i64.wrap (i - sh))]).bind fun t:Nat=>
   cond (decide ((t:Int)=1)) (cond (inB i) (cond (decide (i.tmod 64 < 0)) none (cond (inB i)
    (G (some (encS a (o.set (offB i) (bOr .u64 (o.getD (offB i) 0) (bShl .u64 1 (i.tmod 64)))) sh (i64.wrap (i+1))))) none)) none)
    (G (some (encS a o sh (i64.wrap (i+1)))))) (H (.exit 0) (some (outS o))):=by kernel_rfl
theorem tmod_step (T j:Nat):T%2 ^ (j+1)=T%2 ^ j+2 ^ j*(T / 2 ^ j%2):=by
 rw [Nat.pow_succ,Nat.mod_mul]
theorem sBit_run {a:List Int} (ha:ok8 a=true) (i:Int):sBit.run [W8 a,.int .i64 i]=some (bitN (val a) i):=by
 show cond (ok8 a) _ none=_
 rw [ha]; rfl
theorem shift_set (T j:Nat) (hj:j < 512) (hb:T / 2 ^ j%2=1) :
  (lim 8 (T%2 ^ j)).set (offB j) (bOr .u64 ((lim 8 (T%2 ^ j)).getD (offB j) 0) (bShl .u64 1 ((j:Int).tmod 64)))=lim 8 (T%2 ^ (j+1)):=by
 obtain ⟨_,g2,g3⟩:=idx64 j hj
 have hq:j / 64 < 8:=by omega
 have hr:j%64 < 64:=Nat.mod_lt _ (by omega)
 have hx:T%2 ^ j / 18446744073709551616 ^ (j / 64) < 2 ^ (j%64):=by
  rw [Nat.div_lt_iff_lt_mul (Nat.pow_pos (by omega)),B_pow,<-Nat.pow_add,show j%64+64*(j / 64)=j by omega]
  exact Nat.mod_lt _ (Nat.pow_pos (by omega))
 have hr2:2 ^ (j%64) <= 2 ^ 63:=Nat.pow_le_pow_right (by omega) (by omega)
 have hp:(2:Nat) ^ 63=9223372036854775808:=by decide
 rw [g2,g3,getD_lim 8 _ _ hq,show (1:Int)=((1:Nat):Int) from rfl,shl64 1 _ hr,Nat.one_mul]
 rw [Nat.mod_eq_of_lt (by omega:T%2 ^ j / 18446744073709551616 ^ (j / 64) < 18446744073709551616),Nat.mod_eq_of_lt (by omega:2 ^ (j%64) < 18446744073709551616)]
 rw [or64 _ _ (by omega) (by omega),or_pow _ _ hx,set_lim 8 _ _ _ hq (by omega)]
 rw [tmod_step,hb,Nat.mul_one,B_pow,<-Nat.pow_add,show 64*(j / 64)+j%64=j by omega]
theorem shift_loop {a:List Int} {sh:Int} {T fu:Nat} {K:Ex->St->Option AV} (ha:ok8 a=true) (h1:-512 < sh) (h2:sh < 512) (hT:∀ j:Nat,j < 512->bitN (val a) ((j:Int) - sh)=T / 2 ^ j%2) :
  ∀ (m j n:Nat),j+m=512->m < n->loopA prog g_shift fu fF123 pShift K n (some (encS a (lim 8 (T%2 ^ j)) sh j))=K (.exit 0) (outS (lim 8 T)):=by
 intro m
 induction m with
 | zero=>
  intro j n hj hn
  obtain ⟨n,rfl⟩:=Nat.exists_eq_succ_of_ne_zero (by omega:n ≠ 0)
  have h8:=lim_mod 8 T
  rw [B_pow] at h8
  have e:lim 8 (T%2 ^ j)=lim 8 T:=by rw [show j=64*8 by omega]; exact h8
  have hge:¬ (j:Int) < 512:=by omega
  rw [loopA_succ,ev_Shift_step,e]
  simp only [hge,decide_false,cond_false]
  rfl
 | succ m ih=>
  intro j n hj hn
  obtain ⟨n,rfl⟩:=Nat.exists_eq_succ_of_ne_zero (by omega:n ≠ 0)
  have hlt:(j:Int) < 512:=by omega
  obtain ⟨g1,g2,g3⟩:=idx64 j (by omega)
  have hneg:¬ ((j:Int).tmod 64 < 0):=by rw [g3]; omega
  have e1:i64.wrap ((j:Int)+1)=((j+1:Nat):Int):=by rw [wi64 (by omega) (by omega)]; rfl
  rw [loopA_succ,ev_Shift_step,wi64 (by omega) (by omega),sBit_run ha,hT j (by omega)]
  simp only [hlt,decide_true,cond_true,Option.bind_some,g1,hneg,decide_false,cond_false,e1]
  by_cases hb:T / 2 ^ j%2=1
  ·rw [shift_set T j (by omega) hb,hb]
   exact ih (j+1) n (by omega) (by omega)
  ·have h0:T / 2 ^ j%2=0:=by omega
   have e2:T%2 ^ j=T%2 ^ (j+1):=by rw [tmod_step,h0]; simp
   rw [h0,e2]
   exact ih (j+1) n (by omega) (by omega)
def shiftN (n:Nat) (sh:Int):Nat:=cond (decide (512 <= sh) || decide (sh <= -512)) 0 (cond (decide (sh < 0)) (n / 2 ^ (-sh).toNat) (n*2 ^ sh.toNat))
def sShift:Summ where
 T:=Nat
 run:=fun
  | [.c (.s (.pl (.agg (.ints .u64 a) 8))),.c (.s (.pl (.int .i64 i)))]=>cond (ok8 a) (some (shiftN (val a) i)) none
  | _=>none
 enc:=fun n=>W8 (lim 8 n)
theorem mul_pow_bit (n s j:Nat):n*2 ^ s / 2 ^ j%2=if j < s then 0 else n / 2 ^ (j - s)%2:=by
 split
 ·rename_i h
  obtain ⟨k,rfl⟩:∃ k,s=j+1+k:=⟨s - j - 1,by omega⟩
  rw [show n*2 ^ (j+1+k)=n*2 ^ k*2*2 ^ j by rw [Nat.pow_add,Nat.pow_succ]; ac_rfl,Nat.mul_div_cancel _ (Nat.pow_pos (by omega))]
  omega
 ·rename_i h
  obtain ⟨k,rfl⟩:∃ k,j=s+k:=⟨j - s,by omega⟩
  rw [Nat.pow_add,Nat.mul_comm (2 ^ s) (2 ^ k),Nat.mul_div_mul_right _ _ (Nat.pow_pos (by omega)),show s+k - s=k by omega]
theorem ok_Shift:CallOk prog nF123 sShift:=by
 refine afunc_ok (g:=g_shift) (fu:=fun _=>600) mixed Γ_shift hF123 (by kernel_rfl) ?_
 intro args t ht
 simp only [sShift] at ht
 split at ht
 ·rename_i a sh
  obtain ⟨ha,h2⟩:=ctrue ht
  cases h2
  refine (ev_Shift 600 a sh).trans ?_
  show _=some (W8 (lim 8 (shiftN (val a) sh)))
  unfold shiftN
  cases hc:decide (512 <= sh) || decide (sh <= -512)
  ·simp only [Bool.or_eq_false_iff,decide_eq_false_iff_not] at hc
   simp only [cond_false]
   by_cases hneg:sh < 0
   ·obtain ⟨s,rfl⟩:∃ s:Nat,sh=-(s:Int):=⟨(-sh).toNat,by omega⟩
    have:=shift_loop (a:=a) (sh:=-(s:Int)) (T:=val a / 2 ^ s) (fu:=600) (K:=loopK prog g_shift 600 fF123 pShift) ha (by omega) (by omega) (fun j hj=>by
     unfold bitN
     rw [show (decide ((j:Int) - -(s:Int) < 0))=false by simp; omega,cond_false,show ((j:Int) - -(s:Int)).toNat=s+j by omega,Nat.pow_add,Nat.div_div_eq_div_mul]) 512 0 600 (by omega) (by omega)
    rw [Nat.pow_zero,Nat.mod_one] at this
    refine (this.trans (ev_Shift_out 600 _)).trans ?_
    simp only [hneg,decide_true,cond_true]
    rw [show (- -(s:Int)).toNat=s by omega]
   ·obtain ⟨s,rfl⟩:=Int.eq_ofNat_of_zero_le (by omega:0 <= sh)
    have:=shift_loop (a:=a) (sh:=(s:Int)) (T:=val a*2 ^ s) (fu:=600) (K:=loopK prog g_shift 600 fF123 pShift) ha (by omega) (by omega) (fun j hj=>by
     unfold bitN
     rw [mul_pow_bit]
     by_cases hjs:j < s
     ·rw [show (decide ((j:Int) - (s:Int) < 0))=true by simp; omega,cond_true,if_pos hjs]
     ·rw [show (decide ((j:Int) - (s:Int) < 0))=false by simp; omega,cond_false,if_neg hjs,show ((j:Int) - (s:Int)).toNat=j - s by omega]) 512 0 600 (by omega) (by omega)
    rw [Nat.pow_zero,Nat.mod_one] at this
    refine (this.trans (ev_Shift_out 600 _)).trans ?_
    simp only [hneg,decide_false,cond_false]
    rw [Int.toNat_natCast]
  ·simp only [cond_true]
   rw [show lim 8 0=zero8 by decide]
 ·cases ht
abbrev w64 (x:Int):Int:=u64.wrap x
def mul64E (x y:Int):Int × Int :=
 let x0:=bAnd .u64 x 4294967295
 let x1:=bShr .u64 x 32
 let y0:=bAnd .u64 y 4294967295
 let y1:=bShr .u64 y 32
 let t:=w64 (w64 (x1*y0)+bShr .u64 (w64 (x0*y0)) 32)
 let u:=w64 (bAnd .u64 t 4294967295+w64 (x0*y1))
 (w64 (w64 (w64 (x1*y1)+bShr .u64 t 32)+bShr .u64 u 32),w64 (x*y))
theorem ev_Mul64 (x y:Int):afunc prog fF100 g_cmp fu0 [.int .u64 x,.int .u64 y]=some (enc2 (mul64E x y)):=by kernel_rfl
theorem mul_parts (p q r s:Nat) (hq:q <= 18446744065119617025) (hr:r <= 18446744065119617025) (hs:s <= 18446744065119617025) :
  (p*18446744073709551616+(q+r)*4294967296+s) / 18446744073709551616=p+(q+s / 4294967296) / 4294967296+((q+s / 4294967296)%4294967296+r) / 4294967296:=by omega
theorem mul64_eq (x y:Nat) (hx:x < 18446744073709551616) (hy:y < 18446744073709551616):mul64E x y=(((x*y / 18446744073709551616:Nat):Int),((x*y%18446744073709551616:Nat):Int)):=by
 have hx1:x / 4294967296 <= 4294967295:=by omega
 have hx0:x%4294967296 <= 4294967295:=by omega
 have hy1:y / 4294967296 <= 4294967295:=by omega
 have hy0:y%4294967296 <= 4294967295:=by omega
 have e32:(2:Nat) ^ 32=4294967296:=by decide
 have s32:∀ z:Nat,bShr .u64 (z:Int) 32=((z / 4294967296:Nat):Int):=fun z=>by
  rw [show (32:Int)=((32:Nat):Int) from rfl,shr64 z 32 (by omega),e32]
 have hp:=Nat.mul_le_mul hx1 hy1
 have hq:=Nat.mul_le_mul hx1 hy0
 have hr:=Nat.mul_le_mul hx0 hy1
 have hs:=Nat.mul_le_mul hx0 hy0
 have hxy:x*y=(x / 4294967296)*(y / 4294967296)*18446744073709551616+((x / 4294967296)*(y%4294967296)+(x%4294967296)*(y / 4294967296))*4294967296+(x%4294967296)*(y%4294967296):=by
  have e1:x=(x / 4294967296)*4294967296+x%4294967296:=by omega
  have e2:y=(y / 4294967296)*4294967296+y%4294967296:=by omega
  generalize x / 4294967296=a at *
  generalize x%4294967296=b at *
  generalize y / 4294967296=c at *
  generalize y%4294967296=d at *
  subst e1; subst e2
  grind
 unfold mul64E
 simp only [and32 x hx,and32 y hy,s32,w64,<-Int.natCast_mul,wu64n]
 generalize (x / 4294967296)*(y / 4294967296)=p at *
 generalize (x / 4294967296)*(y%4294967296)=q at *
 generalize (x%4294967296)*(y / 4294967296)=r at *
 generalize (x%4294967296)*(y%4294967296)=s at *
 generalize x*y=xy at *
 rw [Nat.mod_eq_of_lt (by omega:q < 18446744073709551616),Nat.mod_eq_of_lt (by omega:s < 18446744073709551616),Nat.mod_eq_of_lt (by omega:r < 18446744073709551616),Nat.mod_eq_of_lt (by omega:p < 18446744073709551616)]
 simp only [s32,<-Int.natCast_add,wu64n]
 rw [Nat.mod_eq_of_lt (by omega:q+s / 4294967296 < 18446744073709551616),and32 _ (by omega)]
 simp only [s32,<-Int.natCast_add,wu64n]
 rw [Nat.mod_eq_of_lt (by omega:(q+s / 4294967296)%4294967296+r < 18446744073709551616)]
 congr 2
 rw [hxy,mul_parts p q r s (by omega) (by omega) (by omega)]
 omega
def in64 (x:Int):Bool:=decide (0 <= x /\ x < 18446744073709551616)
def sMul64:Summ where
 T:=Int × Int
 run:=fun
  | [.c (.s (.pl (.int .u64 x))),.c (.s (.pl (.int .u64 y)))]=>cond (in64 x && in64 y) (some (x*y / 18446744073709551616,x*y%18446744073709551616)) none
  | _=>none
 enc:=enc2
theorem ok_Mul64:CallOk prog nF100 sMul64:=by
 refine afunc_ok (g:=g_cmp) (fu:=fun _=>fu0) mixed gam_nil hF100 (by kernel_rfl) ?_
 intro args t ht
 simp only [sMul64] at ht
 split at ht
 ·rename_i x y
  obtain ⟨h1,h2⟩:=ctrue ht
  simp only [in64,Bool.and_eq_true,decide_eq_true_eq] at h1
  cases h2
  obtain ⟨x,rfl⟩:=Int.eq_ofNat_of_zero_le h1.1.1
  obtain ⟨y,rfl⟩:=Int.eq_ofNat_of_zero_le h1.2.1
  rw [ev_Mul64,mul64_eq x y (by omega) (by omega)]
  rfl
 ·cases ht
def rowC {β:Type} (M A:List AV->Option (Int × Int)) (a:Int):List Int->List Int->Int->Bool->List Int->(List Int->Int->Bool->Option β)->Option β
 | b :: bs,z :: zs,c,ok,acc,K=>(M [.int .u64 a,.int .u64 b]).bind fun t=>(A [.int .u64 t.2,.int .u64 c,.int .u64 0]).bind fun u=>(A [.int .u64 z,.int .u64 u.1,.int .u64 0]).bind fun v=>
   rowC M A a bs zs (w64 (w64 (t.1+u.2)+v.2)) ok (acc++[v.1]) K
 | b :: bs,[],c,ok,acc,K=>(M [.int .u64 a,.int .u64 b]).bind fun t=>rowC M A a bs [] 0 (((ok && decide (t.1=0)) && decide (t.2=0)) && decide (c=0)) acc K
 | [],zs,c,ok,acc,K=>K (acc++zs) c ok
def mulC {β:Type} (M A:List AV->Option (Int × Int)):List Int->List Int->List Int->List Int->Bool->(List Int->Bool->Option β)->Option β
 | a :: x,y,d,zs,ok,K=>rowC M A a y zs 0 ok [] fun zs' c ok'=>match zs' with
  | z :: r=>mulC M A x y (d++[z]) r (ok' && decide (c=0)) K
  | []=>none
 | [],y,d,zs,ok,K=>K (d++zs) ok
def g_mul:Cg:=⟨⟨gam [(nF100,sMul64),(nF92,sAdd64)],[],noE⟩,[(5,[3,4,5,6,7,16,17],[4,5,6,7]),(9,[3,4,5,6,7,8,9,10,16,17,21,22],[3,4,5,6,7,10,16,17])]⟩
theorem Γ_mul:∀ f A,g_mul.c.Γ f=some A->CallOk prog f A:=gam_cons ok_Mul64 (gam_cons ok_Add64 gam_nil)
theorem ev_Mul (a0 a1 a2 a3 a4 a5 a6 a7 b0 b1 b2 b3 b4 b5 b6 b7:Int):afunc prog fF57 g_mul 20 [W8 [a0,a1,a2,a3,a4,a5,a6,a7],W8 [b0,b1,b2,b3,b4,b5,b6,b7]]
 =mulC sMul64.run sAdd64.run [a0,a1,a2,a3,a4,a5,a6,a7] [b0,b1,b2,b3,b4,b5,b6,b7] [] zero8 true (fun l ok=>some (.tup [.s (.pl (.agg (.ints .u64 l) 8)),.s (.pl (.bool ok))])):=by kernel_rfl
theorem run_Mul64 (x y:Nat) (hx:x < 18446744073709551616) (hy:y < 18446744073709551616):sMul64.run [.int .u64 x,.int .u64 y]=some (((x*y / 18446744073709551616:Nat):Int),((x*y%18446744073709551616:Nat):Int)):=by
 have h1:in64 (x:Int)=true:=by simp only [in64,decide_eq_true_eq]; omega
 have h2:in64 (y:Int)=true:=by simp only [in64,decide_eq_true_eq]; omega
 simp only [sMul64,h1,h2,Bool.and_self,cond_true]
 have e:((x:Int)*y / 18446744073709551616,(x:Int)*y%18446744073709551616)=(((x*y / 18446744073709551616:Nat):Int),((x*y%18446744073709551616:Nat):Int)):=by
  rw [<-Int.natCast_mul]
  generalize x*y=p
  exact Prod.ext (by show (p:Int) / _=_; omega) (by show (p:Int)%_=_; omega)
 exact congrArg some e
theorem run_Add64 (x y c:Nat) (hx:x < 18446744073709551616) (hy:y < 18446744073709551616) (hc:c <= 1):sAdd64.run [.int .u64 x,.int .u64 y,.int .u64 c]=some ((((x+y+c)%18446744073709551616:Nat):Int),(((x+y+c) / 18446744073709551616:Nat):Int)):=by
 have h1:carryOk x y c=true:=by simp only [carryOk,Bool.and_eq_true,decide_eq_true_eq]; omega
 simp only [sAdd64,h1,cond_true]
 have e:(((x:Int)+y+c)%18446744073709551616,((x:Int)+y+c) / 18446744073709551616)=((((x+y+c)%18446744073709551616:Nat):Int),(((x+y+c) / 18446744073709551616:Nat):Int)):=Prod.ext (by show ((x:Int)+y+c)%_=_; omega) (by show ((x:Int)+y+c) / _=_; omega)
 exact congrArg some e
theorem run_Add64_0 (x y:Nat) (hx:x < 18446744073709551616) (hy:y < 18446744073709551616):sAdd64.run [.int .u64 x,.int .u64 y,.int .u64 0]=some ((((x+y)%18446744073709551616:Nat):Int),(((x+y) / 18446744073709551616:Nat):Int)):=run_Add64 x y 0 hx hy (by omega)
theorem row_step {γ:Type} (M D:List AV->Option (Int × Int)) (hM:∀ x y:Nat,x < 18446744073709551616->y < 18446744073709551616->M [.int .u64 x,.int .u64 y]=some (((x*y / 18446744073709551616:Nat):Int),((x*y%18446744073709551616:Nat):Int)))
  (hD:∀ x y:Nat,x < 18446744073709551616->y < 18446744073709551616->D [.int .u64 x,.int .u64 y,.int .u64 0]=some ((((x+y)%18446744073709551616:Nat):Int),(((x+y) / 18446744073709551616:Nat):Int))) (A b C z:Nat) (hA:A < 18446744073709551616) (hb:b < 18446744073709551616) (hC:C < 18446744073709551616) (hz:z < 18446744073709551616) (F:Int->Int->Option γ) :
  ((M [.int .u64 A,.int .u64 b]).bind fun t:Int × Int=>(D [.int .u64 t.2,.int .u64 C,.int .u64 0]).bind fun u:Int × Int=>(D [.int .u64 z,.int .u64 u.1,.int .u64 0]).bind fun v:Int × Int=>F (w64 (w64 (t.1+u.2)+v.2)) v.1)
  =F (((A*b+C+z) / 18446744073709551616:Nat):Int) (((A*b+C+z)%18446744073709551616:Nat):Int):=by
 have hab:A*b <= 18446744073709551615*18446744073709551615:=Nat.mul_le_mul (by omega) (by omega)
 rw [hM A b hA hb]
 generalize A*b=p at *
 have hhi:p / 18446744073709551616 < 18446744073709551616:=by omega
 have hlo:p%18446744073709551616 < 18446744073709551616:=Nat.mod_lt _ (by omega)
 have key:p=p / 18446744073709551616*18446744073709551616+p%18446744073709551616:=by omega
 generalize p / 18446744073709551616=hi at *
 generalize p%18446744073709551616=lo at *
 rw [Option.bind_some,hD lo C hlo hC,Option.bind_some]
 have hu1:(lo+C)%18446744073709551616 < 18446744073709551616:=Nat.mod_lt _ (by omega)
 have keyu:lo+C=(lo+C) / 18446744073709551616*18446744073709551616+(lo+C)%18446744073709551616:=by omega
 generalize (lo+C) / 18446744073709551616=u2 at *
 generalize (lo+C)%18446744073709551616=u1 at *
 rw [hD z u1 hz hu1,Option.bind_some]
 have keyv:z+u1=(z+u1) / 18446744073709551616*18446744073709551616+(z+u1)%18446744073709551616:=by omega
 have hv1:(z+u1)%18446744073709551616 < 18446744073709551616:=Nat.mod_lt _ (by omega)
 generalize (z+u1) / 18446744073709551616=v2 at *
 generalize (z+u1)%18446744073709551616=v1 at *
 have e:w64 (w64 ((hi:Int)+(u2:Int))+(v2:Int))=(((p+C+z) / 18446744073709551616:Nat):Int):=by
  unfold w64
  rw [<-Int.natCast_add,wu64n,<-Int.natCast_add,wu64n]
  congr 1
  omega
 have e2:v1=(p+C+z)%18446744073709551616:=by omega
 rw [<-e2]
 exact congrArg (fun q=>F q (v1:Int)) e
theorem rowC_eq {β:Type} {A:Nat} (hA:A < 18446744073709551616):∀ (bs zs:List Int) (C:Nat) (ok:Bool) (acc:List Int) (K:List Int->Int->Bool->Option β),okL bs=true->okL zs=true->zs.length <= bs.length->C < 18446744073709551616 ->
  ∃ (c':Int) (ok':Bool),rowC sMul64.run sAdd64.run A bs zs C ok acc K=K (acc++lim zs.length (val zs+A*val bs+C)) c' ok' /\ (ok' && decide (c'=0))=(ok && decide (val zs+A*val bs+C < 18446744073709551616 ^ zs.length)):=by
 intro bs
 induction bs with
 | nil=>
  intro zs C ok acc K hb hz hl hC
  cases zs with
  | nil=>
   refine ⟨C,ok,by simp [rowC,lim],?_⟩
   have d:decide ((C:Int)=0)=decide (val []+A*val []+C < 18446744073709551616 ^ ([]:List Int).length):=decide_eq_decide.2 (by simp [val])
   rw [d]
  | cons _ _=>simp at hl
 | cons b bs ih=>
  intro zs C ok acc K hb hz hl hC
  simp only [okL,Bool.and_eq_true,decide_eq_true_eq] at hb
  obtain ⟨b,rfl⟩:=Int.eq_ofNat_of_zero_le hb.1.1
  have hbl:b < 18446744073709551616:=by omega
  have hab:A*b <= 18446744073709551615*18446744073709551615:=Nat.mul_le_mul (by omega) (by omega)
  have hdist:A*(b+18446744073709551616*val bs)=A*b+18446744073709551616*(A*val bs):=by
   rw [Nat.mul_add]; congr 1; rw [<-Nat.mul_assoc,Nat.mul_comm A,Nat.mul_assoc]
  cases zs with
  | nil=>
   obtain ⟨c',ok',h1,h2⟩:=ih [] 0 (((ok && decide (((A*b / 18446744073709551616:Nat):Int)=0)) && decide (((A*b%18446744073709551616:Nat):Int)=0)) && decide ((C:Int)=0)) acc K hb.2 rfl (by simp) (by omega)
   refine ⟨c',ok',?_,?_⟩
   ·simp only [rowC,run_Mul64 A b hA hbl,Option.bind_some]
    exact h1
   ·have d1:decide (val []+A*val bs+0 < 18446744073709551616 ^ ([]:List Int).length)=decide (A*val bs < 1):=decide_eq_decide.2 (by simp [val])
    have d2:decide (val []+A*val ((b:Int) :: bs)+C < 18446744073709551616 ^ ([]:List Int).length)=decide (A*b+18446744073709551616*(A*val bs)+C < 1):=decide_eq_decide.2 (by
     simp only [val,List.length_nil,Nat.pow_zero,Int.toNat_natCast,hdist,Nat.zero_add])
    rw [h2,d1,d2]
    clear h1 h2 d1 d2 hdist ih
    generalize A*b=p at *
    generalize A*val bs=q at *
    cases ok
    ·simp
    ·simp only [Bool.true_and]
     rw [Bool.eq_iff_iff]
     simp only [Bool.and_eq_true,decide_eq_true_eq]
     omega
  | cons z zs=>
   simp only [okL,Bool.and_eq_true,decide_eq_true_eq] at hz
   obtain ⟨z,rfl⟩:=Int.eq_ofNat_of_zero_le hz.1.1
   have hzl:z < 18446744073709551616:=by omega
   have hl':zs.length <= bs.length:=by simpa using hl
   obtain ⟨c',ok',h1,h2⟩:=ih zs ((A*b+C+z) / 18446744073709551616) ok (acc++[(((A*b+C+z)%18446744073709551616:Nat):Int)]) K hb.2 hz.2 hl' (by omega)
   refine ⟨c',ok',?_,?_⟩
   ·refine (row_step sMul64.run sAdd64.run run_Mul64 run_Add64_0 A b C z hA hbl hC hzl (fun c v=>rowC sMul64.run sAdd64.run A bs zs c ok (acc++[v]) K)).trans (h1.trans ?_)
    simp only [val,List.length_cons,lim,Int.toNat_natCast,hdist,List.append_assoc,List.singleton_append]
    generalize A*b=p at *
    generalize A*val bs=q at *
    have f1:(z+18446744073709551616*val zs+(p+18446744073709551616*q)+C)%18446744073709551616=(p+C+z)%18446744073709551616:=by omega
    have f2:(z+18446744073709551616*val zs+(p+18446744073709551616*q)+C) / 18446744073709551616=val zs+q+(p+C+z) / 18446744073709551616:=by omega
    rw [f1,f2]
   ·have d:decide (val zs+A*val bs+(A*b+C+z) / 18446744073709551616 < 18446744073709551616 ^ zs.length)=decide (val ((z:Int) :: zs)+A*val ((b:Int) :: bs)+C < 18446744073709551616 ^ ((z:Int) :: zs).length):=decide_eq_decide.2 (by
     simp only [val,List.length_cons,Int.toNat_natCast,hdist,Nat.pow_succ]
     generalize A*b=p at *
     generalize A*val bs=q at *
     generalize 18446744073709551616 ^ zs.length=m at *
     omega)
    rw [h2,d]
theorem lim_congr {k m n:Nat} (h:m%18446744073709551616 ^ k=n%18446744073709551616 ^ k):lim k m=lim k n:=by
 rw [<-lim_mod k m,<-lim_mod k n,h]
theorem mulC_eq {β:Type} {y:List Int} (hy:okL y=true):∀ (x d zs:List Int) (ok:Bool) (K:List Int->Bool->Option β),okL x=true->okL zs=true->zs.length=x.length->zs.length <= y.length ->
  mulC sMul64.run sAdd64.run x y d zs ok K=K (d++lim zs.length (val zs+val x*val y)) (ok && decide (val zs+val x*val y < 18446744073709551616 ^ zs.length)):=by
 intro x
 induction x with
 | nil=>
  intro d zs ok K hx hz hl hy'
  cases zs with
  | nil=>simp [mulC,lim,val]
  | cons _ _=>simp at hl
 | cons a x ih=>
  intro d zs ok K hx hz hl hy'
  cases zs with
  | nil=>simp at hl
  | cons z zs=>
   simp only [okL,Bool.and_eq_true,decide_eq_true_eq] at hx
   obtain ⟨A,rfl⟩:=Int.eq_ofNat_of_zero_le hx.1.1
   have hl':zs.length=x.length:=by simpa using hl
   simp only [List.length_cons] at hy'
   obtain ⟨c',ok',h1,h2⟩:=rowC_eq (A:=A) (by omega) y (z :: zs) 0 ok [] (fun zs' c ok'=>match zs' with
    | z :: r=>mulC sMul64.run sAdd64.run x y (d++[z]) r (ok' && decide (c=0)) K
    | []=>none) hy hz (by simpa using hy') (by omega)
   refine h1.trans ?_
   simp only [List.nil_append,List.length_cons,lim,Nat.add_zero]
   simp only [List.length_cons,Nat.add_zero] at h2
   rw [h2]
   have:=ih (d++[(((val (z :: zs)+A*val y)%18446744073709551616:Nat):Int)]) (lim zs.length ((val (z :: zs)+A*val y) / 18446744073709551616)) (ok && decide (val (z :: zs)+A*val y < 18446744073709551616 ^ (zs.length+1))) K hx.2 (okL_lim _ _) (by rw [length_lim]; exact hl') (by rw [length_lim]; omega)
   rw [this,length_lim,val_lim]
   have hv:val ((A:Int) :: x)*val y=A*val y+18446744073709551616*(val x*val y):=by
    simp only [val,Int.toNat_natCast,Nat.add_mul,Nat.mul_assoc]
   rw [hv,<-Nat.add_assoc]
   generalize val (z :: zs)+A*val y=N at *
   generalize val x*val y=X at *
   have f1:(N+18446744073709551616*X)%18446744073709551616=N%18446744073709551616:=by omega
   have f2:(N+18446744073709551616*X) / 18446744073709551616=N / 18446744073709551616+X:=by omega
   rw [f1,f2,List.append_assoc,List.singleton_append]
   congr 1
   ·congr 2
    exact lim_congr (by simp)
   ·rw [Bool.and_assoc]
    congr 1
    have e:18446744073709551616 ^ (z :: zs).length=18446744073709551616 ^ zs.length*18446744073709551616:=by rw [List.length_cons,Nat.pow_succ]
    by_cases hN:N < 18446744073709551616 ^ (zs.length+1)
    ·have hN':N < 18446744073709551616 ^ zs.length*18446744073709551616:=hN
     have h5:N / 18446744073709551616%18446744073709551616 ^ zs.length=N / 18446744073709551616:=Nat.mod_eq_of_lt (by omega)
     simp only [hN,decide_true,Bool.true_and,h5]
     exact decide_eq_decide.2 (by rw [Nat.pow_succ]; omega)
    ·have hN':¬ N < 18446744073709551616 ^ zs.length*18446744073709551616:=hN
     have h3:¬ N+18446744073709551616*X < 18446744073709551616 ^ (zs.length+1):=by rw [Nat.pow_succ]; omega
     simp only [hN,decide_false,Bool.false_and,List.length_cons,h3]
def mulW (a b:List Int):Nat × Bool:=(val a*val b,decide (val a*val b < M512))
def sMul:Summ:={ T:=Nat × Bool,run:=run2 mulW,enc:=encWB }
theorem ok_Mul:CallOk prog nF57 sMul:=by
 refine afunc_ok (g:=g_mul) (fu:=fun _=>20) mixed Γ_mul hF57 (by kernel_rfl) ?_
 intro args t ht
 obtain ⟨a,b,rfl,ha,hb,rfl⟩:=run2_ok ht
 have key:=mulC_eq (ok8_ok hb) a [] zero8 true (fun l ok=>some (AV.tup [.s (.pl (.agg (.ints .u64 l) 8)),.s (.pl (.bool ok))])) (ok8_ok ha) (by decide) (by rw [ok8_len ha]; rfl) (by rw [ok8_len hb]; simp)
 simp only [List.nil_append,Bool.true_and,show val zero8=0 by decide,Nat.zero_add,show zero8.length=8 from rfl,<-M512_eq] at key
 have fin:∀ a b:List Int,(some (AV.tup [.s (.pl (.agg (.ints .u64 (lim 8 (val a*val b))) 8)),.s (.pl (.bool (decide (val a*val b < M512))))]):Option AV)=some (sMul.enc (mulW a b)):=fun _ _=>rfl
 rw [fin] at key
 obtain ⟨a0,a1,a2,a3,a4,a5,a6,a7,rfl⟩:=list8 ha
 obtain ⟨b0,b1,b2,b3,b4,b5,b6,b7,rfl⟩:=list8 hb
 exact (ev_Mul a0 a1 a2 a3 a4 a5 a6 a7 b0 b1 b2 b3 b4 b5 b6 b7).trans key
end
end Go.Eng
