import Derived.Test.YteipjabipehbpaaGreatZR1
namespace Go.Eng
set_option linter.all false
def dg (x i:Nat):Nat:=x / 256 ^ i%256
theorem vB_snoc (l:List Int) (d:Nat):vB (l++[((d:Nat):Int)])=vB l+256 ^ l.length*d:=by
 rw [vB_app]; simp [vB]
theorem vB_set:∀ (l:List Int) (i v:Nat),i < l.length->okB l=true->vB (l.set i (v:Int))+256 ^ i*(l.getD i 0).toNat=vB l+256 ^ i*v:=by
 intro l
 induction l with
 | nil=>intro i v h; simp at h
 | cons x r ih=>
  intro i v h hk
  simp only [okB,Bool.and_eq_true,decide_eq_true_eq] at hk
  cases i with
  | zero=>simp [vB]; omega
  | succ i=>
   have:=ih i v (by simpa using h) hk.2
   simp only [List.set_cons_succ,List.getD_cons_succ,vB,Nat.pow_succ]
   rw [Nat.mul_comm (256 ^ i) 256,Nat.mul_assoc,Nat.mul_assoc]; omega
theorem okB_set:∀ (l:List Int) (i v:Nat),okB l=true->v < 256->okB (l.set i (v:Int))=true:=by
 intro l
 induction l with
 | nil=>intro i v h _; simp [okB]
 | cons x r ih=>
  intro i v h hv
  simp only [okB,Bool.and_eq_true] at h
  cases i with
  | zero=>simp [okB,h.2]; omega
  | succ i=>simp only [List.set_cons_succ,okB,h.1,ih i v h.2 hv,Bool.and_self]
theorem okB_getD {l:List Int} (h:okB l=true) (i:Nat):0 <= l.getD i 0 /\ l.getD i 0 < 256:=by
 induction l generalizing i with
 | nil=>simp
 | cons x r ih=>
  simp only [okB,Bool.and_eq_true,decide_eq_true_eq] at h
  cases i with
  | zero=>simpa using h.1
  | succ i=>rw [List.getD_cons_succ]; exact ih h.2 i
open Go Go.Proofs
theorem beq_dec (a b:Nat):Nat.beq a b=decide (a=b):=by
 cases h:Nat.beq a b
 ·rw [decide_eq_false fun e=>by subst e; simp at h]
 ·rw [decide_eq_true (Nat.eq_of_beq_eq_true h)]
theorem okB_map (s:Str):okB (s.map ofB)=true:=by
 induction s with
 | nil=>rfl
 | cons c r ih=>
  have:=c.toNat_lt
  simp only [List.map_cons,okB,ih,Bool.and_true,ofB,decide_eq_true_eq]; omega
theorem take_succ_getD {α:Type} (l:List α) (i:Nat) (d:α) (h:i < l.length):l.take (i+1)=l.take i++[l.getD i d]:=by
 rw [List.take_succ_eq_append_getElem h]
 simp [List.getD,h]
theorem lo_set_step (x k i:Nat) (hi:i < k):(lo i x++List.replicate (k - i) 0).set i ((dg x i:Nat):Int)=lo (i+1) x++List.replicate (k - (i+1)) 0:=by
 have hlo:∀ (i x:Nat),lo (i+1) x=lo i x++[((dg x i:Nat):Int)]:=by
  intro i
  induction i with
  | zero=>intro x; simp [lo,dg]
  | succ i ih=>
   intro x
   rw [lo,ih (x / 256),lo,List.cons_append]
   have:dg (x / 256) i=dg x (i+1):=by rw [dg,dg,Nat.div_div_eq_div_mul,Nat.pow_succ,Nat.mul_comm]
   rw [this]
 have hl:(lo i x).length=i:=length_lo i x
 rw [hlo,show k - i=(k - (i+1))+1 by omega,List.replicate_succ,List.set_append_right _ _ (by omega),hl,Nat.sub_self,List.set_cons_zero,List.append_assoc]
 rfl
theorem vS_b8 {l:List Int} (h:okB l=true):vS (l.map b8)=vB l:=by
 induction l with
 | nil=>rfl
 | cons x r ih=>
  simp only [okB,Bool.and_eq_true,decide_eq_true_eq] at h
  have ih:=ih h.2
  simp only [vS,List.map_cons,vB] at ih ⊢
  rw [ih]
  have:(ofB (b8 x)).toNat=x.toNat:=by
   simp only [ofB,b8,Int.toNat_natCast,UInt8.toNat_ofNat']
   omega
  rw [this]
end Go.Eng
