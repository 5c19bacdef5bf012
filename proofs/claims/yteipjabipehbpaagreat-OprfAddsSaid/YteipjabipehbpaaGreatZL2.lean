import Derived.Test.YteipjabipehbpaaGreatZL1
namespace Go.Eng
open Go.IntKind (u64 i64 u8)
noncomputable section
open Go Go.Proofs
set_option linter.all false
abbrev wi (x:Int):Int:=i64.wrap x
def g_rev:Cg:=⟨⟨gam [],[],noE⟩,[(2,[0,2,3],[])]⟩
abbrev pRev:List Nat:=[1,2]
def encRev (ty:TypeId) (n:Nat) (xs:List Int) (i j:Int):St :=
 {tm:=[(0,.s (.own 0 n 1)),(2,.int .i64 i),(3,.int .i64 j),(28,.s (.own 0 n 1))],hp:=[(0,⟨ty,n*1,.t (.ints .u8 xs)⟩)],nx:=1,sz:=28 }
def outRev (ty:TypeId) (n:Nat) (xs:List Int):St :=
 {tm:=[(28,.s (.own 0 n 1))],hp:=[(0,⟨ty,n*1,.t (.ints .u8 xs)⟩)],nx:=1,sz:=28 }
theorem ev_rev (fu:Nat) (ty:TypeId) (n:Nat) (xs:List Int):aeff prog fF177 g_rev fu ty (.ints .u8 xs) n 1 [] =
  loopA prog g_rev fu fF177 pRev (loopKE prog g_rev fu fF177 pRev n 1) fu (some (encRev ty n xs 0 (wi ((n:Int) - 1)))):=by kernel_rfl
theorem ev_rev_out (fu:Nat) (ty:TypeId) (n:Nat) (xs:List Int):loopKE prog g_rev fu fF177 pRev n 1 (.exit 0) (outRev ty n xs)=cond (Nat.beq n n && true) (some (.tup [],.ints .u8 xs)) none:=by kernel_rfl
theorem ev_rev_step {β:Type} (fu:Nat) (ty:TypeId) (n:Nat) (xs:List Int) (i j:Int) (G:Option St->Option β) (H:Ex->Option St->Option β):loopR prog g_rev fu fF177 pRev G H (encRev ty n xs i j) =
  cond (decide (i < j)) (cond (decide (0 <= j /\ j < (n:Int))) (cond (decide (0 <= i /\ i < (n:Int))) (cond (decide (0 <= i /\ i < (n:Int))) (cond (decide (0 <= j /\ j < (n:Int)))
   (G (some (encRev ty n ((xs.set i.toNat (xs.getD j.toNat 0)).set j.toNat (xs.getD i.toNat 0)) (wi (i+1)) (wi (j - 1))))) none) none) none) none)
  (H (.exit 0) (some (outRev ty n xs))):=by kernel_rfl
def revd (xs:List Int) (i:Nat):List Int:=(List.range xs.length).map fun k=>if k < i ∨ xs.length - 1 - k < i then xs.getD (xs.length - 1 - k) 0 else xs.getD k 0
theorem revd_len (xs:List Int) (i:Nat):(revd xs i).length=xs.length:=by simp [revd]
theorem revd_get (xs:List Int) (i k:Nat) (hk:k < xs.length):(revd xs i)[k]?=some (if k < i ∨ xs.length - 1 - k < i then xs.getD (xs.length - 1 - k) 0 else xs.getD k 0):=by
 simp [revd,List.getElem?_map,List.getElem?_range hk]
theorem revd_zero (xs:List Int):revd xs 0=xs:=by
 apply List.ext_getElem?
 intro k
 by_cases hk:k < xs.length
 ·rw [revd_get xs 0 k hk]
  simp [List.getD,hk]
 ·rw [List.getElem?_eq_none (by rw [revd_len]; omega),List.getElem?_eq_none (by omega)]
theorem revd_getD (xs:List Int) (i k:Nat) (hk:k < xs.length):(revd xs i).getD k 0=(if k < i ∨ xs.length - 1 - k < i then xs.getD (xs.length - 1 - k) 0 else xs.getD k 0):=by
 rw [List.getD_eq_getElem?_getD,revd_get xs i k hk]; rfl
theorem revd_step (xs:List Int) (i:Nat) (h:i < xs.length - 1 - i):((revd xs i).set i ((revd xs i).getD (xs.length - 1 - i) 0)).set (xs.length - 1 - i) ((revd xs i).getD i 0)=revd xs (i+1):=by
 apply List.ext_getElem?
 intro k
 by_cases hk:k < xs.length
 ·rw [revd_getD xs i _ (by omega),revd_getD xs i _ (by omega),revd_get xs (i+1) k hk]
  have e1:¬ (xs.length - 1 - i < i ∨ xs.length - 1 - (xs.length - 1 - i) < i):=by omega
  have e2:¬ (i < i ∨ xs.length - 1 - i < i):=by omega
  rw [if_neg e1,if_neg e2]
  rw [List.getElem?_set,List.getElem?_set]
  by_cases h1:xs.length - 1 - i=k
  ·rw [if_pos h1,if_pos (by simp [revd_len]; omega),if_pos (by omega)]
   rw [show xs.length - 1 - k=i by omega]
  ·rw [if_neg h1]
   by_cases h2:i=k
   ·rw [if_pos h2,if_pos (by rw [revd_len]; omega),if_pos (by omega),h2]
   ·rw [if_neg h2,revd_get xs i k hk]
    by_cases h3:k < i ∨ xs.length - 1 - k < i
    ·rw [if_pos h3,if_pos (by omega)]
    ·rw [if_neg h3,if_neg (by omega)]
 ·rw [List.getElem?_eq_none (by simp [revd_len]; omega),List.getElem?_eq_none (by rw [revd_len]; omega)]
theorem revd_end (xs:List Int) (i:Nat) (h:xs.length <= i+i+1):revd xs i=xs.reverse:=by
 apply List.ext_getElem?
 intro k
 by_cases hk:k < xs.length
 ·rw [revd_get xs i k hk,List.getElem?_reverse hk]
  have hg:∀ q,q < xs.length->xs[q]?=some (xs.getD q 0):=fun q hq=>by simp [List.getD,hq]
  by_cases h3:k < i ∨ xs.length - 1 - k < i
  ·rw [if_pos h3,hg _ (by omega)]
  ·rw [if_neg h3,hg _ (by omega),show xs.length - 1 - k=k by omega]
 ·rw [List.getElem?_eq_none (by rw [revd_len]; omega),List.getElem?_eq_none (by simp; omega)]
theorem wi_id {x:Int} (h1:-9223372036854775808 <= x) (h2:x < 9223372036854775808):wi x=x:=by
 simp only [wi,IntKind.wrap,IntKind.signed,IntKind.bits]
 simp
 omega
theorem rev_loop (fu:Nat) (ty:TypeId) (xs:List Int) (hn:xs.length <= 1099511627776):∀ (m n i:Nat),xs.length <= i+i+m->m < n->i <= xs.length ->
  loopA prog g_rev fu fF177 pRev (loopKE prog g_rev fu fF177 pRev xs.length 1) n (some (encRev ty xs.length (revd xs i) i ((xs.length:Int) - 1 - i)))=some (.tup [],.ints .u8 xs.reverse):=by
 intro m
 induction m with
 | zero=>
  intro n i h1 h2 h3
  obtain ⟨n,rfl⟩:=Nat.exists_eq_succ_of_ne_zero (by omega:n ≠ 0)
  have c:¬ ((i:Int) < (xs.length:Int) - 1 - i):=by omega
  rw [loopA_succ,ev_rev_step,decide_eq_false c,cond_false]
  show loopKE prog g_rev fu fF177 pRev xs.length 1 (.exit 0) (outRev ty xs.length (revd xs i))=_
  rw [ev_rev_out,Nat.beq_refl,revd_end xs i (by omega)]; rfl
 | succ m ih=>
  intro n i h1 h2 h3
  obtain ⟨n,rfl⟩:=Nat.exists_eq_succ_of_ne_zero (by omega:n ≠ 0)
  rw [loopA_succ,ev_rev_step]
  by_cases c:(i:Int) < (xs.length:Int) - 1 - i
  ·have hj:(xs.length:Int) - 1 - i=((xs.length - 1 - i:Nat):Int):=by omega
   have b1:0 <= ((xs.length - 1 - i:Nat):Int) /\ ((xs.length - 1 - i:Nat):Int) < (xs.length:Int):=by omega
   have b2:0 <= (i:Int) /\ (i:Int) < (xs.length:Int):=by omega
   rw [decide_eq_true c,cond_true,hj,decide_eq_true b1,cond_true,decide_eq_true b2,cond_true,cond_true,cond_true,Int.toNat_natCast,Int.toNat_natCast]
   rw [revd_step xs i (by omega),wi_id (by omega) (by omega),wi_id (by omega) (by omega)]
   rw [show ((i:Int)+1)=((i+1:Nat):Int) by omega,show (((xs.length - 1 - i:Nat):Int) - 1)=(xs.length:Int) - 1 - ((i+1:Nat):Int) by omega]
   exact ih n (i+1) (by omega) (by omega) (by omega)
  ·rw [decide_eq_false c,cond_false]
   show loopKE prog g_rev fu fF177 pRev xs.length 1 (.exit 0) (outRev ty xs.length (revd xs i))=_
   rw [ev_rev_out,Nat.beq_refl,revd_end xs i (by omega)]; rfl
def E_rev:TRow->Nat->Nat->List AV->Option (Bool × AV × TRow)
 | .ints .u8 xs,n,1,[]=>some (decide (n <= 1099511627776),.tup [],.ints .u8 xs.reverse)
 | _,_,_,_=>none
theorem eff_rev:EffOk prog nF177 (effOf E_rev):=by
 refine eff_ok (g:=g_rev) (fu:=fun _ n=>n+1) mixed ⟨gam_nil,fun _ _ h=>by cases h⟩ hF177 (by kernel_rfl) ?_
 intro ty r len esz rest av r' hl hE
 unfold E_rev at hE
 split at hE
 ·rename_i xs
  simp only [Option.some.injEq,Prod.mk.injEq,decide_eq_true_eq] at hE
  obtain ⟨hn,rfl,rfl⟩:=hE
  have hl:xs.length=len:=by simpa [TRow.length] using hl
  subst hl
  rw [ev_rev,wi_id (by omega) (by omega)]
  have:=rev_loop (xs.length+1) ty xs hn xs.length (xs.length+1) 0 (by omega) (by omega) (by omega)
  rw [revd_zero] at this
  simpa using this
 ·cases hE
def tab8:List UInt8:=[0,1,2,2]++(List.replicate 4 3++(List.replicate 8 4++(List.replicate 16 5++(List.replicate 32 6++(List.replicate 64 7++List.replicate 128 8)))))
def l1 (x:Int) (K:Int->Int->Option AV):Option AV:=cond (decide (4294967296 <= x)) (K (bShr .u64 x 32) 32) (K x 0)
def l2 (x n:Int) (K:Int->Int->Option AV):Option AV:=cond (decide (65536 <= x)) (K (bShr .u64 x 16) (wi (n+16))) (K x n)
def l3 (x n:Int) (K:Int->Int->Option AV):Option AV:=cond (decide (256 <= x)) (K (bShr .u64 x 8) (wi (n+8))) (K x n)
def l4 (x n:Int):Option AV:=cond (decide (0 <= u8.wrap x /\ u8.wrap x < ((tab8.length:Nat):Int))) (some (.int .i64 (wi (n+wi (((tab8.getD (u8.wrap x).toNat 0).toNat:Nat):Int))))) none
theorem ev_Len64 (x:Int):afunc prog fF126 g_cmp fu0 [.int .u64 x]=l1 x fun x n=>l2 x n fun x n=>l3 x n fun x n=>l4 x n:=by kernel_rfl
def bl (n:Nat):Nat:=if n=0 then 0 else n.log2+1
theorem bl_shift {n k:Nat} (h:2 ^ k <= n):bl n=k+bl (n / 2 ^ k):=by
 have hp:0 < 2 ^ k:=Nat.pow_pos (by omega)
 have h0:n ≠ 0:=by omega
 have h1:n / 2 ^ k ≠ 0:=by
  have:=Nat.div_pos h hp
  omega
 unfold bl
 rw [if_neg h0,if_neg h1]
 have:n.log2=k+(n / 2 ^ k).log2:=by
  rw [Nat.log2_eq_iff h0]
  have g1:=Nat.log2_self_le h1
  have g2:n / 2 ^ k < 2 ^ ((n / 2 ^ k).log2+1):=Nat.lt_log2_self
  generalize (n / 2 ^ k).log2=m at *
  constructor
  ·have:=Nat.mul_le_of_le_div (2 ^ k) _ _ g1
   rw [Nat.pow_add,Nat.mul_comm]; exact this
  ·rw [Nat.div_lt_iff_lt_mul hp,<-Nat.pow_add] at g2
   rw [show k+m+1=m+1+k by omega]; exact g2
 omega
theorem tab8_len:tab8.length=256:=by decide +kernel
theorem tab8_ok:∀ k:Fin 256,(tab8.getD k.val 0).toNat=bl k.val:=by decide +kernel
theorem bl_lt {n k:Nat} (h:n < 2 ^ k):bl n <= k:=by
 unfold bl
 split
 ·omega
 ·rename_i h0
  have:=(Nat.log2_lt h0).2 h
  omega
theorem bl_spec (n:Nat):n < 2 ^ bl n /\ (n ≠ 0->2 ^ (bl n - 1) <= n):=by
 unfold bl
 split
 ·rename_i h; subst h; simp
 ·rename_i h0
  refine ⟨Nat.lt_log2_self,fun _=>?_⟩
  rw [Nat.add_sub_cancel]; exact Nat.log2_self_le h0
theorem sh64 (x k:Nat) (hk:k < 64):bShr .u64 (x:Int) ((k:Nat):Int)=((x / 2 ^ k:Nat):Int):=shr64 x k hk
theorem l4_eq (x n:Nat) (hx:x < 256) (hn:n <= 64):l4 x n=some (.int .i64 ((n+bl x:Nat):Int)):=by
 have hb:=bl_lt (n:=x) (k:=8) hx
 unfold l4
 rw [wu8n,Nat.mod_eq_of_lt hx]
 have:decide (0 <= ((x:Nat):Int) /\ ((x:Nat):Int) < ((tab8.length:Nat):Int))=true:=by
  rw [tab8_len]; simp only [decide_eq_true_eq]; omega
 rw [this,cond_true,Int.toNat_natCast,show (tab8.getD x 0).toNat=bl x from tab8_ok ⟨x,hx⟩]
 simp only [wi]
 rw [wi64 (n:=((bl x:Nat):Int)) (by omega) (by omega),wi64 (by omega) (by omega)]
 rfl
theorem l3_eq (x n:Nat) (hx:x < 65536) (hn:n <= 48):(l3 x n fun x n=>l4 x n)=some (.int .i64 ((n+bl x:Nat):Int)):=by
 unfold l3
 by_cases h:256 <= x
 ·have h':(256:Int) <= x:=by omega
  simp only [h',decide_true,cond_true,wi]
  rw [show (8:Int)=((8:Nat):Int) from rfl,sh64 x 8 (by omega),wi64 (by omega) (by omega),<-Int.natCast_add,l4_eq _ _ (by omega) (by omega),bl_shift (n:=x) (k:=8) h]
  congr 3; omega
 ·have h':¬ (256:Int) <= x:=by omega
  simp only [h',decide_false,cond_false]
  exact l4_eq x n (by omega) (by omega)
theorem l2_eq (x n:Nat) (hx:x < 4294967296) (hn:n <= 32):(l2 x n fun x n=>l3 x n fun x n=>l4 x n)=some (.int .i64 ((n+bl x:Nat):Int)):=by
 unfold l2
 by_cases h:65536 <= x
 ·have h':(65536:Int) <= x:=by omega
  simp only [h',decide_true,cond_true,wi]
  rw [show (16:Int)=((16:Nat):Int) from rfl,sh64 x 16 (by omega),wi64 (by omega) (by omega),<-Int.natCast_add,l3_eq _ _ (by omega) (by omega),bl_shift (n:=x) (k:=16) h]
  congr 3; omega
 ·have h':¬ (65536:Int) <= x:=by omega
  simp only [h',decide_false,cond_false]
  exact l3_eq x n (by omega) (by omega)
theorem l1_eq (x:Nat) (hx:x < 18446744073709551616):(l1 x fun x n=>l2 x n fun x n=>l3 x n fun x n=>l4 x n)=some (.int .i64 ((bl x:Nat):Int)):=by
 unfold l1
 by_cases h:4294967296 <= x
 ·have h':(4294967296:Int) <= x:=by omega
  simp only [h',decide_true,cond_true]
  rw [show (32:Int)=((32:Nat):Int) from rfl,sh64 x 32 (by omega),l2_eq _ _ (by omega) (by omega),bl_shift (n:=x) (k:=32) h]
 ·have h':¬ (4294967296:Int) <= x:=by omega
  simp only [h',decide_false,cond_false]
  have:=l2_eq x 0 (by omega) (by omega)
  rw [Nat.zero_add] at this
  exact this
def sLen64:Summ where
 T:=Nat
 run:=fun
  | [.c (.s (.pl (.int .u64 x)))]=>cond (in64 x) (some (bl x.toNat)) none
  | _=>none
 enc:=fun n=>.int .i64 n
theorem ok_Len64:CallOk prog nF126 sLen64:=by
 refine afunc_ok (g:=g_cmp) (fu:=fun _=>fu0) mixed gam_nil hF126 (by kernel_rfl) ?_
 intro args t ht
 simp only [sLen64] at ht
 split at ht
 ·rename_i x
  obtain ⟨h1,h2⟩:=ctrue ht
  simp only [in64,decide_eq_true_eq] at h1
  cases h2
  obtain ⟨x,rfl⟩:=Int.eq_ofNat_of_zero_le h1.1
  rw [ev_Len64,l1_eq x (by omega)]
  rfl
 ·cases ht
def g_len:Cg:=⟨⟨gam [(nF126,sLen64)],[],noE⟩,[(3,[1,2,3],[2])]⟩
theorem Γ_len:∀ f A,g_len.c.Γ f=some A->CallOk prog f A:=gam_cons ok_Len64 gam_nil
def lenC (L:List AV->Option Nat):List Int->Int->Option AV
 | a :: r,i=>cond (!decide (a=0)) ((L [.int .u64 a]).bind fun t=>some (.int .i64 (wi (wi (i*64)+t)))) (lenC L r (wi (i - 1)))
 | [],_=>some (.int .i64 0)
theorem ev_Len (a0 a1 a2 a3 a4 a5 a6 a7:Int):afunc prog fF94 g_len 20 [W8 [a0,a1,a2,a3,a4,a5,a6,a7]]=lenC sLen64.run [a7,a6,a5,a4,a3,a2,a1,a0] 7:=by kernel_rfl
theorem run_Len64 (x:Nat) (hx:x < 18446744073709551616):sLen64.run [.int .u64 x]=some (bl x):=by
 have h1:in64 (x:Int)=true:=by simp only [in64,decide_eq_true_eq]; omega
 simp only [sLen64,h1,cond_true,Int.toNat_natCast]
theorem bl_zero:bl 0=0:=by simp [bl]
theorem rev_arith (p b v s:Nat):(b+18446744073709551616*s)*p+v=s*(p*18446744073709551616)+(b*p+v):=by
 generalize 18446744073709551616=q
 grind
theorem revVal_add:∀ (x:List Int) (s:Nat),okL x=true->revVal x s=s*18446744073709551616 ^ x.length+revVal x 0 /\ revVal x 0 < 18446744073709551616 ^ x.length:=by
 intro x
 induction x with
 | nil=>intro s _; simp [revVal]
 | cons a x ih=>
  intro s h
  simp only [okL,Bool.and_eq_true,decide_eq_true_eq] at h
  simp only [revVal]
  obtain ⟨h1,h2⟩:=ih (a.toNat+18446744073709551616*s) h.2
  obtain ⟨h3,_⟩:=ih (a.toNat+18446744073709551616*0) h.2
  have ha:a.toNat < 18446744073709551616:=by omega
  rw [h1,h3]
  simp only [List.length_cons,Nat.pow_succ,Nat.mul_zero,Nat.add_zero]
  generalize 18446744073709551616 ^ x.length=p at *
  generalize a.toNat=b at *
  generalize revVal x 0=v at *
  constructor
  ·exact rev_arith p b v s
  ·have:(b+1)*p <= 18446744073709551616*p:=Nat.mul_le_mul_right _ (by omega)
   rw [Nat.add_mul] at this
   omega
theorem lenC_eq:∀ (x:List Int),okL x=true->x.length <= 8->lenC sLen64.run x ((x.length:Int) - 1)=some (.int .i64 ((bl (revVal x 0):Nat):Int)):=by
 intro x
 induction x with
 | nil=>intro _ _; simp [lenC,revVal,bl_zero]
 | cons a x ih=>
  intro h hl
  have h':=h
  simp only [okL,Bool.and_eq_true,decide_eq_true_eq] at h
  simp only [List.length_cons] at hl
  obtain ⟨A,rfl⟩:=Int.eq_ofNat_of_zero_le h.1.1
  have e1:(((((A:Int) :: x).length:Nat):Int) - 1)=(x.length:Int):=by simp
  rw [e1]
  simp only [lenC,revVal,Nat.mul_zero,Nat.add_zero,Int.toNat_natCast]
  by_cases h0:A=0
  ·subst h0
   have e2:wi ((x.length:Int) - 1)=(x.length:Int) - 1:=wi64 (by omega) (by omega)
   rw [e2,ih h.2 (by omega)]
   simp
  ·have hA:¬ (A:Int)=0:=by omega
   obtain ⟨g1,g2⟩:=revVal_add x A h.2
   have hb:=bl_lt (n:=A) (k:=64) (by omega)
   have hd:(!decide ((A:Int)=0))=true:=by rw [decide_eq_false hA]; rfl
   rw [hd,cond_true,run_Len64 A (by omega),Option.bind_some]
   simp only [wi]
   rw [wi64 (n:=(x.length:Int)*64) (by omega) (by omega),wi64 (by omega) (by omega)]
   have e3:bl (revVal x A)=64*x.length+bl A:=by
    rw [B_pow] at g1 g2
    have hp:0 < 2 ^ (64*x.length):=Nat.pow_pos (by omega)
    have hge:2 ^ (64*x.length) <= revVal x A:=by
     rw [g1]
     have:1*2 ^ (64*x.length) <= A*2 ^ (64*x.length):=Nat.mul_le_mul_right _ (by omega)
     omega
    rw [bl_shift hge]
    have e5:revVal x A / 2 ^ (64*x.length)=A:=by rw [g1,Nat.mul_comm,Nat.mul_add_div hp,Nat.div_eq_of_lt g2,Nat.add_zero]
    rw [e5]
   rw [e3]
   have e4:(x.length:Int)*64+((bl A:Nat):Int)=((64*x.length+bl A:Nat):Int):=by omega
   rw [e4]
def run1 {T:Type} (F:List Int->T):List AV->Option T
 | [.c (.s (.pl (.agg (.ints .u64 a) 8)))]=>cond (ok8 a) (some (F a)) none
 | _=>none
theorem run1_ok {T:Type} {F:List Int->T} {args:List AV} {t:T} (h:run1 F args=some t):∃ a,args=[W8 a] /\ ok8 a=true /\ t=F a:=by
 unfold run1 at h
 split at h
 ·rename_i a
  obtain ⟨h1,h2⟩:=ctrue h
  cases h2
  exact ⟨a,rfl,h1,rfl⟩
 ·cases h
def sLen:Summ:={ T:=Nat,run:=run1 fun a=>bl (val a),enc:=fun n=>.int .i64 n }
theorem ok_Len:CallOk prog nF94 sLen:=by
 refine afunc_ok (g:=g_len) (fu:=fun _=>20) mixed Γ_len hF94 (by kernel_rfl) ?_
 intro args t ht
 obtain ⟨a,rfl,ha,rfl⟩:=run1_ok ht
 have ha':=ok8_ok ha
 obtain ⟨a0,a1,a2,a3,a4,a5,a6,a7,rfl⟩:=list8 ha
 rw [ev_Len]
 have:=lenC_eq [a7,a6,a5,a4,a3,a2,a1,a0] (okL_rev ha') (by simp)
 rw [revVal_8] at this
 exact this
def g_div:Cg:=⟨⟨gam [(nF94,sLen),(nF123,sShift),(nF96,sCmp),(nF97,sSub)],[],noE⟩,[(7,[3,4,5,6,7,8,9],[4,5,6,7,8])]⟩
theorem Γ_div:∀ f A,g_div.c.Γ f=some A->CallOk prog f A:=gam_cons ok_Len (gam_cons ok_Shift (gam_cons ok_Cmp (gam_cons ok_Sub gam_nil)))
def rLen:List AV->Option Nat:=sLen.run
def rShift:List AV->Option Nat:=sShift.run
def rCmp:List AV->Option Int:=sCmp.run
def rSub:List AV->Option (Nat × Bool):=sSub.run
def rAdd:List AV->Option (Nat × Bool):=sAdd.run
def rMul:List AV->Option (Nat × Bool):=sMul.run
abbrev pDiv:List Nat:=[1,1,1,1,0,1,2]
def encD (b q r:List Int) (s:Int):St :=
 {tm:=[(3,.s (.ptr 0 0 8)),(4,.s (.ptr 1 0 8)),(5,.s (.ptr 2 0 8)),(6,.int .i64 0),(7,.s (.ptr 3 0 8)),(8,.s (.ptr 4 0 8)),(9,.int .i64 s)],
  hp:=[(0,⟨tW,8,.t (.ints .u64 b)⟩),(1,⟨tW,8,.t (.ints .u64 zero8)⟩),(2,⟨tW,8,.t (.ints .u64 zero8)⟩),(3,⟨tW,8,.t (.ints .u64 q)⟩),(4,⟨tW,8,.t (.ints .u64 r)⟩)],nx:=5,sz:=50 }
def outD (q r:List Int):St :=
 {tm:=[(4,.s (.ptr 0 0 8)),(5,.s (.ptr 1 0 8)),(6,.int .i64 0),(7,.s (.ptr 2 0 8)),(8,.s (.ptr 3 0 8))],
  hp:=[(0,⟨tW,8,.t (.ints .u64 zero8)⟩),(1,⟨tW,8,.t (.ints .u64 zero8)⟩),(2,⟨tW,8,.t (.ints .u64 q)⟩),(3,⟨tW,8,.t (.ints .u64 r)⟩)],nx:=4,sz:=50 }
abbrev encWWE (q r:List Int) (e:Int):AV:=.tup [.s (.pl (.agg (.ints .u64 q) 8)),.s (.pl (.agg (.ints .u64 r) 8)),.s (.pl (.int .i64 e))]
theorem ev_Div (fu:Nat) (a b:List Int):afunc prog fF124 g_div fu [W8 a,W8 b]=cond (decide (b=zero8)) (some (encWWE zero8 zero8 9))
  ((rLen [W8 a]).bind fun x:Nat=>(rLen [W8 b]).bind fun y:Nat=>loopA prog g_div fu fF124 pDiv (loopK prog g_div fu fF124 pDiv) fu (some (encD b zero8 a (wi (x - y))))):=by kernel_rfl
theorem ev_Div_out (fu:Nat) (q r:List Int):loopK prog g_div fu fF124 pDiv (.exit 0) (outD q r)=some (encWWE q r 0):=by kernel_rfl
theorem ev_Div_step (fu:Nat) (b q r:List Int) (s:Int) (G:Option St->Option AV) (H:Ex->Option St->Option AV):loopR prog g_div fu fF124 pDiv G H (encD b q r s) =
  cond (decide (0 <= s)) ((rShift [W8 b,.int .i64 s]).bind fun t:Nat=>(rCmp [W8 r,W8 (lim 8 t)]).bind fun c:Int=>cond (decide (0 <= c))
   ((rSub [W8 r,W8 (lim 8 t)]).bind fun d:Nat × Bool=>cond (inB s) (cond (decide (s.tmod 64 < 0)) none (cond (inB s)
    (G (some (encD b (q.set (offB s) (bOr .u64 (q.getD (offB s) 0) (bShl .u64 1 (s.tmod 64)))) (lim 8 d.1) (wi (s - 1))))) none)) none)
   (G (some (encD b q r (wi (s - 1)))))) (H (.exit 0) (some (outD q r))):=by kernel_rfl
theorem set_lim':∀ (k q n m:Nat),q < k->n / 18446744073709551616 ^ q%18446744073709551616+m < 18446744073709551616 ->
  (lim k n).set q (((n / 18446744073709551616 ^ q%18446744073709551616+m:Nat)):Int)=lim k (n+18446744073709551616 ^ q*m):=by
 intro k
 induction k with
 | zero=>intro q n m h; omega
 | succ k ih=>
  intro q n m h hm
  cases q with
  | zero=>
   simp only [Nat.pow_zero,Nat.div_one,Nat.one_mul] at hm ⊢
   simp only [lim,List.set_cons_zero]
   have e1:(n+m)%18446744073709551616=n%18446744073709551616+m:=by omega
   have e2:(n+m) / 18446744073709551616=n / 18446744073709551616:=by omega
   rw [e1,e2]
  | succ q=>
   simp only [lim,List.set_cons_succ]
   have e1:n / 18446744073709551616 ^ (q+1)=n / 18446744073709551616 / 18446744073709551616 ^ q:=by
    rw [Nat.pow_succ,Nat.mul_comm (_ ^ q),Nat.div_div_eq_div_mul]
   rw [e1] at hm ⊢
   rw [ih q (n / 18446744073709551616) m (by omega) hm]
   have e2:n+18446744073709551616 ^ (q+1)*m=n+18446744073709551616*(18446744073709551616 ^ q*m):=by
    rw [Nat.pow_succ,Nat.mul_comm (_ ^ q),Nat.mul_assoc]
   rw [e2]
   have e3:(n+18446744073709551616*(18446744073709551616 ^ q*m))%18446744073709551616=n%18446744073709551616:=by omega
   have e4:(n+18446744073709551616*(18446744073709551616 ^ q*m)) / 18446744073709551616=n / 18446744073709551616+18446744073709551616 ^ q*m:=by omega
   rw [e3,e4]
theorem or_pow_high (h r:Nat):2 ^ (r+1)*h ||| 2 ^ r=2 ^ (r+1)*h+2 ^ r :=
 (Nat.two_pow_add_eq_or_of_lt (Nat.pow_lt_pow_right (by omega) (by omega)) h).symm
theorem set_bit (Q j:Nat) (hj:j < 512) (hd:2 ^ (j+1) ∣ Q) :
  (lim 8 Q).set (offB j) (bOr .u64 ((lim 8 Q).getD (offB j) 0) (bShl .u64 1 ((j:Int).tmod 64)))=lim 8 (Q+2 ^ j):=by
 obtain ⟨_,g2,g3⟩:=idx64 j hj
 have hq:j / 64 < 8:=by omega
 have hr:j%64 < 64:=Nat.mod_lt _ (by omega)
 obtain ⟨h,rfl⟩:=hd
 have hr2:2 ^ (j%64) <= 2 ^ 63:=Nat.pow_le_pow_right (by omega) (by omega)
 have hp:(2:Nat) ^ 63=9223372036854775808:=by decide
 have hx:∃ x,2 ^ (j+1)*h / 18446744073709551616 ^ (j / 64)%18446744073709551616=2 ^ (j%64+1)*x:=by
  rw [B_pow,show 2 ^ (j+1)=2 ^ (64*(j / 64))*2 ^ (j%64+1) by rw [<-Nat.pow_add]; congr 1; omega,Nat.mul_assoc,Nat.mul_div_cancel_left _ (Nat.pow_pos (by omega))]
  have e:18446744073709551616=2 ^ (j%64+1)*2 ^ (63 - j%64):=by
   rw [<-Nat.pow_add,show j%64+1+(63 - j%64)=64 by omega]
  rw [e,Nat.mul_mod_mul_left]
  exact ⟨_,rfl⟩
 obtain ⟨x,hx⟩:=hx
 have hxl:2 ^ (j%64+1)*x < 18446744073709551616:=by rw [<-hx]; exact Nat.mod_lt _ (by omega)
 have hsum:2 ^ (j%64+1)*x+2 ^ (j%64) < 18446744073709551616:=by
  rw [<-or_pow_high]
  exact Nat.or_lt_two_pow (n:=64) hxl (by omega)
 rw [g2,g3,getD_lim 8 _ _ hq,show (1:Int)=((1:Nat):Int) from rfl,shl64 1 _ hr,Nat.one_mul,Nat.mod_eq_of_lt (by omega:2 ^ (j%64) < 18446744073709551616)]
 rw [or64 _ _ (by rw [hx]; exact hxl) (by omega),hx,or_pow_high,<-hx]
 rw [set_lim' 8 _ _ _ hq (by rw [hx]; exact hsum)]
 rw [B_pow,<-Nat.pow_add,show 64*(j / 64)+j%64=j by omega]
theorem run_Shift {b:List Int} (hb:ok8 b=true) (i:Int):rShift [W8 b,.int .i64 i]=some (shiftN (val b) i):=by
 show cond (ok8 b) _ none=_
 rw [hb]; rfl
theorem run2_some {T:Type} (F:List Int->List Int->T) {a b:List Int} (ha:ok8 a=true) (hb:ok8 b=true):run2 F [W8 a,W8 b]=some (F a b):=by
 show cond (ok8 a && ok8 b) _ none=_
 rw [ha,hb]; rfl
theorem run1_some {T:Type} (F:List Int->T) {a:List Int} (ha:ok8 a=true):run1 F [W8 a]=some (F a):=by
 show cond (ok8 a) _ none=_
 rw [ha]; rfl
theorem run_Cmp {a b:List Int} (ha:ok8 a=true) (hb:ok8 b=true):rCmp [W8 a,W8 b]=some (cmpN (val a) (val b)):=run2_some (fun a b=>cmpN (val a) (val b)) ha hb
theorem run_Sub {a b:List Int} (ha:ok8 a=true) (hb:ok8 b=true):rSub [W8 a,W8 b]=some (difW a b):=run2_some _ ha hb
theorem run_Add {a b:List Int} (ha:ok8 a=true) (hb:ok8 b=true):rAdd [W8 a,W8 b]=some (sumW a b):=run2_some _ ha hb
theorem run_Mul {a b:List Int} (ha:ok8 a=true) (hb:ok8 b=true):rMul [W8 a,W8 b]=some (mulW a b):=run2_some _ ha hb
theorem run_Len {a:List Int} (ha:ok8 a=true):rLen [W8 a]=some (bl (val a)):=run1_some (fun a=>bl (val a)) ha
theorem M512_pos:0 < M512:=by decide +kernel
theorem lim8_add (n:Nat):lim 8 (n+M512)=lim 8 n:=by
 rw [<-lim8_mod (n+M512),Nat.add_mod_right,lim8_mod]
theorem cmpN_ge (x y:Nat):decide ((0:Int) <= cmpN x y)=decide (y <= x):=by
 unfold cmpN
 by_cases h1:x < y
 ·have:¬ y <= x:=by omega
  simp [h1,this]
 ·by_cases h2:y < x
  ·have:y <= x:=by omega
   simp [h1,h2,this]
  ·have:y <= x:=by omega
   simp [h1,h2,this]
theorem div_loop {b:List Int} {A fu:Nat} {K:Ex->St->Option AV} (hb:ok8 b=true):∀ (m:Nat) (n Q R:Nat),m <= 512->m < n->A=Q*val b+R->2 ^ m ∣ Q->R < val b*2 ^ m->R < M512->(m=0 ∨ val b*2 ^ (m - 1) < M512) ->
  loopA prog g_div fu fF124 pDiv K n (some (encD b (lim 8 Q) (lim 8 R) ((m:Int) - 1)))=K (.exit 0) (outD (lim 8 (A / val b)) (lim 8 (A%val b))):=by
 intro m
 induction m with
 | zero=>
  intro n Q R _ hn hA _ hR _ _
  obtain ⟨n,rfl⟩:=Nat.exists_eq_succ_of_ne_zero (by omega:n ≠ 0)
  rw [Nat.pow_zero,Nat.mul_one] at hR
  have e1:A / val b=Q:=by
   rw [hA,Nat.mul_comm,Nat.mul_add_div (by omega),Nat.div_eq_of_lt hR,Nat.add_zero]
  have e2:A%val b=R:=by
   rw [hA,Nat.mul_comm,Nat.mul_add_mod,Nat.mod_eq_of_lt hR]
  rw [e1,e2,loopA_succ,ev_Div_step]
  rfl
 | succ m ih=>
  intro n Q R hm hn hA hd hR hRM hB
  obtain ⟨n,rfl⟩:=Nat.exists_eq_succ_of_ne_zero (by omega:n ≠ 0)
  have hB' : val b * 2 ^ m < M512 := by rcases hB with hB | hB; · omega
                                        · simpa using hB
  have es:(((m+1:Nat):Int) - 1)=(m:Int):=by omega
  rw [es]
  obtain ⟨g1,g2,g3⟩:=idx64 m (by omega)
  have hneg:¬ ((m:Int).tmod 64 < 0):=by rw [g3]; omega
  have h0:(0:Int) <= (m:Int):=by omega
  have esh:shiftN (val b) (m:Int)=val b*2 ^ m:=by
   unfold shiftN
   have c1:(decide ((512:Int) <= m) || decide ((m:Int) <= -512))=false:=by
    have:¬ (512:Int) <= m:=by omega
    have h2:¬ (m:Int) <= -512:=by omega
    simp [this,h2]
   have c2:decide ((m:Int) < 0)=false:=by
    have:¬ (m:Int) < 0:=by omega
    simp [this]
   rw [c1,c2,cond_false,cond_false,Int.toNat_natCast]
  have vT:val (lim 8 (val b*2 ^ m))=val b*2 ^ m:=by rw [val_lim8,Nat.mod_eq_of_lt hB']
  have vR:val (lim 8 R)=R:=by rw [val_lim8,Nat.mod_eq_of_lt hRM]
  have ew:wi ((m:Int) - 1)=(m:Int) - 1:=wi64 (by omega) (by omega)
  have rC:rCmp [W8 (lim 8 R),W8 (lim 8 (val b*2 ^ m))]=some (cmpN R (val b*2 ^ m)):=by
   rw [run_Cmp (ok8_lim _) (ok8_lim _),vR,vT]
  have rS:rSub [W8 (lim 8 R),W8 (lim 8 (val b*2 ^ m))]=some (R+M512 - val b*2 ^ m,decide (val b*2 ^ m <= R)):=by
   rw [run_Sub (ok8_lim _) (ok8_lim _),difW,vR,vT]
  rw [loopA_succ,ev_Div_step,run_Shift hb,esh]
  have dv:2 ^ m ∣ Q:=Nat.dvd_trans (Nat.pow_dvd_pow 2 (by omega)) hd
  have hmm:m=0 ∨ val b*2 ^ (m - 1) < M512:=by
   rcases Nat.eq_zero_or_pos m with h | h
   ·exact .inl h
   ·refine .inr (Nat.lt_of_le_of_lt (Nat.mul_le_mul_left _ (Nat.pow_le_pow_right (by omega) (by omega))) hB')
  rw [decide_eq_true h0,cond_true,Option.bind_some,rC,Option.bind_some,cmpN_ge]
  by_cases hge:val b*2 ^ m <= R
  ·rw [decide_eq_true hge,cond_true,rS,Option.bind_some,g1,cond_true,decide_eq_false hneg,cond_false,cond_true,set_bit Q m (by omega) hd,ew]
   have er:lim 8 (R+M512 - val b*2 ^ m)=lim 8 (R - val b*2 ^ m):=by
    rw [show R+M512 - val b*2 ^ m=R - val b*2 ^ m+M512 by omega,lim8_add]
   rw [er]
   refine ih n (Q+2 ^ m) (R - val b*2 ^ m) (by omega) (by omega) ?_ (Nat.dvd_add dv (Nat.dvd_refl _)) ?_ (by omega) hmm
   ·rw [Nat.add_mul,Nat.mul_comm (2 ^ m)]; omega
   ·rw [Nat.pow_succ,<-Nat.mul_assoc] at hR; omega
  ·rw [decide_eq_false hge,cond_false,ew]
   exact ih n Q R (by omega) (by omega) hA dv (by omega) hRM hmm
def divW (a b:List Int):Nat × Nat × Int:=if val b=0 then (0,0,9) else (val a / val b,val a%val b,0)
def sDiv:Summ:={ T:=Nat × Nat × Int,run:=run2 divW,enc:=fun t=>encWWE (lim 8 t.1) (lim 8 t.2.1) t.2.2 }
def rDiv:List AV->Option (Nat × Nat × Int):=sDiv.run
theorem run_Div {a b:List Int} (ha:ok8 a=true) (hb:ok8 b=true):rDiv [W8 a,W8 b]=some (divW a b):=run2_some _ ha hb
theorem val_zero8:val zero8=0:=by decide
theorem lim_zero8:lim 8 0=zero8:=by decide
theorem bl_lim (n q:Nat) (h:n < 18446744073709551616 ^ q):bl n <= 64*q:=bl_lt (by rw [<-B_pow]; exact h)
theorem pow_le_B (m q:Nat) (h:m <= 64*q):2 ^ m <= 18446744073709551616 ^ q:=by
 rw [B_pow]; exact Nat.pow_le_pow_right (by omega) h
theorem ok_Div:CallOk prog nF124 sDiv:=by
 refine afunc_ok (g:=g_div) (fu:=fun _=>600) mixed Γ_div hF124 (by kernel_rfl) ?_
 intro args t ht
 obtain ⟨a,b,rfl,ha,hb,rfl⟩:=run2_ok ht
 rw [ev_Div]
 by_cases h0:val b=0
 ·have e:b=zero8:=by rw [<-lim8_val hb,h0,lim_zero8]
  rw [decide_eq_true e,cond_true]
  show _=some (encWWE (lim 8 (divW a b).1) (lim 8 (divW a b).2.1) (divW a b).2.2)
  rw [divW,if_pos h0,lim_zero8]
 ·have e:¬ b=zero8:=by
   intro e; rw [e,val_zero8] at h0; exact h0 rfl
  rw [decide_eq_false e,cond_false,run_Len ha,Option.bind_some,run_Len hb,Option.bind_some]
  show _=some (encWWE (lim 8 (divW a b).1) (lim 8 (divW a b).2.1) (divW a b).2.2)
  rw [divW,if_neg h0]
  have va:=val8_lt ha
  have vb:=val8_lt hb
  obtain ⟨a1,a2⟩:=bl_spec (val a)
  obtain ⟨b1,b2⟩:=bl_spec (val b)
  have b2:=b2 h0
  have la:bl (val a) <= 64*8:=bl_lim _ 8 (by rw [<-M512_eq]; exact va)
  have lb:bl (val b) <= 64*8:=bl_lim _ 8 (by rw [<-M512_eq]; exact vb)
  have lb1:1 <= bl (val b):=by
   unfold bl; rw [if_neg h0]; omega
  have ew:wi ((bl (val a):Int) - (bl (val b):Int))=(bl (val a):Int) - (bl (val b):Int):=wi64 (by omega) (by omega)
  rw [ew]
  have key:∀ m:Nat,(bl (val a):Int) - (bl (val b):Int)=(m:Int) - 1->loopA prog g_div 600 fF124 pDiv (loopK prog g_div 600 fF124 pDiv) 600 (some (encD b zero8 a ((m:Int) - 1)))=some (encWWE (lim 8 (val a / val b)) (lim 8 (val a%val b)) 0):=by
   intro m hm
   have:=div_loop (b:=b) (A:=val a) (fu:=600) (K:=loopK prog g_div 600 fF124 pDiv) hb m 600 0 (val a) (by omega) (by omega) (by omega) (Nat.dvd_zero _) ?_ va ?_
   ·rw [lim_zero8,lim8_val ha] at this
    exact this.trans (ev_Div_out 600 _ _)
   ·refine Nat.lt_of_lt_of_le a1 ?_
    rw [show bl (val a)=bl (val b) - 1+m by omega,Nat.pow_add]
    exact Nat.mul_le_mul_right _ b2
   ·rcases Nat.eq_zero_or_pos m with h | h
    ·exact .inl h
    ·refine .inr ?_
     have:val b*2 ^ (m - 1) < 2 ^ bl (val b)*2 ^ (m - 1):=Nat.mul_lt_mul_of_pos_right b1 (Nat.pow_pos (by omega))
     rw [<-Nat.pow_add,show bl (val b)+(m - 1)=bl (val a) by omega] at this
     refine Nat.lt_of_lt_of_le this ?_
     rw [M512_eq]
     exact pow_le_B _ 8 la
  by_cases hlt:bl (val a) < bl (val b)
  ·have hab:val a < val b:=by
    refine Nat.lt_of_lt_of_le a1 (Nat.le_trans (Nat.pow_le_pow_right (by omega) (by omega)) b2)
   have hs:¬ (0:Int) <= (bl (val a):Int) - (bl (val b):Int):=by omega
   rw [Nat.div_eq_of_lt hab,Nat.mod_eq_of_lt hab,lim8_val ha,lim_zero8]
   rw [show (600:Nat)=599+1 from rfl,loopA_succ,ev_Div_step,decide_eq_false hs,cond_false]
   exact ev_Div_out (599+1) _ _
  ·have:=key (bl (val a) - bl (val b)+1) (by omega)
   rw [show (((bl (val a) - bl (val b)+1:Nat):Int) - 1)=(bl (val a):Int) - (bl (val b):Int) by omega] at this
   exact this
def rLen64:List AV->Option Nat:=sLen64.run
def rOf:List AV->Option Int:=sOf.run
def rBit:List AV->Option Nat:=sBit.run
def sLZ:Summ where
 T:=Nat
 run:=fun
  | [.c (.s (.pl (.int .u64 x)))]=>cond (in64 x) (some (64 - bl x.toNat)) none
  | _=>none
 enc:=fun n=>.int .i64 (n:Int)
def rLZ:List AV->Option Nat:=sLZ.run
def sDiv64:Summ where
 T:=Int × Int
 run:=fun
  | [.c (.s (.pl (.int .u64 h))),.c (.s (.pl (.int .u64 l))),.c (.s (.pl (.int .u64 y)))]=>cond (decide (y=10) && decide (0 <= h /\ h < 10) && in64 l) (some ((h*18446744073709551616+l) / 10,(h*18446744073709551616+l)%10)) none
  | _=>none
 enc:=enc2
def rDiv64:List AV->Option (Int × Int):=sDiv64.run
def sSmall:Summ where
 T:=Nat × Nat
 run:=run1 fun a=>(val a / 10,val a%10)
 enc:=fun t=>.tup [.s (.pl (.agg (.ints .u64 (lim 8 t.1)) 8)),.s (.pl (.int .u8 (t.2:Int)))]
def rSmall:List AV->Option (Nat × Nat):=sSmall.run
def digL:Nat->Nat->List Int
 | 0,_=>[]
 | k+1,n=>(48+(n%10:Nat):Int) :: (if n / 10=0 then [] else digL k (n / 10))
def digits (n:Nat):Str:=(digL 200 n).reverse.map b8
def sDigits:Summ where
 T:=Str
 run:=run1 fun a=>digits (val a)
 enc:=fun t=>.str t
def isDig (c:UInt8):Bool:=Nat.ble 48 c.toNat && Nat.ble c.toNat 57
def decV:Nat->Str->Nat
 | n,[]=>n
 | n,c :: r=>decV (n*10+(c.toNat - 48)) r
def decOk (s:Str):Bool:=match s with
 | []=>false
 | [c]=>isDig c
 | c :: r=>!(Nat.beq c.toNat 48) && (isDig c && r.all isDig)
def decE (s:Str):Nat × Int:=cond (decOk s) (cond (Nat.blt (decV 0 s) M512) (decV 0 s,0) (0,7)) (0,4)
def sDecimal:Summ where
 T:=Nat × Int
 run:=fun
  | [.c (.s (.pl (.str s)))]=>cond (decide (s.length <= 1099511627776)) (some (decE s)) none
  | _=>none
 enc:=fun t=>.tup [.s (.pl (.agg (.ints .u64 (lim 8 t.1)) 8)),.s (.pl (.int .i64 t.2))]
def rDecimal:List AV->Option (Nat × Int):=sDecimal.run
def sTrue:Summ where
 T:=Unit
 run:=fun
  | []=>some ()
  | _=>none
 enc:=fun _=>.bool true
def rTrue:List AV->Option Unit:=sTrue.run
end
end Go.Eng
