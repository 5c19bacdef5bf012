import Derived.Test.YteipjabipehbpaaGreatZF2
namespace Go.Eng
noncomputable section
set_option linter.unusedVariables false
def Pr (p:Nat):Prop:=2 <= p /\ ∀ d,d ∣ p->d=1 ∨ d=p
theorem Pr.cop {p a:Nat} (hp:Pr p) (h:¬ p ∣ a):Nat.Coprime p a:=by
 rcases hp.2 (Nat.gcd p a) (Nat.gcd_dvd_left p a) with h1 | h1
 ·exact h1
 ·exact absurd (h1 ▸ Nat.gcd_dvd_right p a) h
theorem Pr.euclid {p a b:Nat} (hp:Pr p) (h:p ∣ a*b):p ∣ a ∨ p ∣ b:=by
 by_cases ha:p ∣ a
 ·exact .inl ha
 ·exact .inr ((hp.cop ha).dvd_of_dvd_mul_left h)
def prodL:List Nat->Nat
 | []=>1
 | x :: r=>x*prodL r
theorem prodL_perm {l m:List Nat} (h:l.Perm m):prodL l=prodL m:=by
 induction h with
 | nil=>rfl
 | cons x _ ih=>simp only [prodL,ih]
 | swap x y l=>simp only [prodL]; rw [<-Nat.mul_assoc,Nat.mul_comm y x,Nat.mul_assoc]
 | trans _ _ h1 h2=>exact h1.trans h2
theorem perm_sub:∀ {l m:List Nat},l.Nodup->(∀ x ∈ l,x ∈ m)->l.length=m.length->l.Perm m:=by
 intro l
 induction l with
 | nil=>intro m _ _ h; cases m with
  | nil=>exact .nil
  | cons _ _=>cases h
 | cons x l ih=>
  intro m hn hs hl
  have hx:=hs x (by simp)
  have hp:=List.perm_cons_erase hx
  obtain ⟨h1,h2⟩:=List.nodup_cons.1 hn
  refine List.Perm.trans (List.Perm.cons x (ih h2 (fun y hy=>?_) ?_)) hp.symm
  ·have hm:=hs y (by simp [hy])
   have hne:y ≠ x:=fun e=>h1 (e ▸ hy)
   exact (List.mem_erase_of_ne hne).2 hm
  ·have:=hp.length_eq
   simp only [List.length_cons] at this hl
   omega
theorem prodL_map (a p:Nat):∀ l:List Nat,prodL (l.map fun i=>a*i%p)%p=a ^ l.length*prodL l%p:=by
 intro l
 induction l with
 | nil=>rfl
 | cons x l ih=>
  simp only [List.map_cons,prodL,List.length_cons]
  rw [Nat.mul_mod,ih,Nat.mod_mod,<-Nat.mul_mod,Nat.pow_succ]
  congr 1
  rw [Nat.mul_comm (a ^ l.length) a,Nat.mul_assoc,Nat.mul_assoc,Nat.mul_left_comm x]
theorem Pr.cop_prod {p:Nat} (hp:Pr p):∀ l:List Nat,(∀ x ∈ l,¬ p ∣ x)->¬ p ∣ prodL l:=by
 intro l
 induction l with
 | nil=>
  intro _ h
  have:=Nat.le_of_dvd (by decide) h
  have:=hp.1
  simp only [prodL] at *
  omega
 | cons x l ih=>
  intro hx h
  rcases hp.euclid h with h | h
  ·exact hx x (by simp) h
  ·exact ih (fun y hy=>hx y (by simp [hy])) h
theorem not_dvd_small {p i:Nat} (h1:0 < i) (h2:i < p):¬ p ∣ i:=fun h=>by
 have:=Nat.le_of_dvd h1 h
 omega
theorem dvd_of_mod_eq {p x y:Nat} (h:x%p=y%p) (hle:y <= x):p ∣ x - y:=by
 have h1:=Nat.div_add_mod x p
 have h2:=Nat.div_add_mod y p
 have hd:y / p <= x / p:=Nat.div_le_div_right hle
 refine ⟨x / p - y / p,?_⟩
 rw [Nat.mul_sub]
 have:=Nat.mul_le_mul_left p hd
 omega
theorem fermat {p a:Nat} (hp:Pr p) (ha:¬ p ∣ a):a ^ (p - 1)%p=1:=by
 have h2:=hp.1
 let L:=(List.range (p - 1)).map (·+1)
 have hL:∀ x,x ∈ L ↔ 0 < x /\ x < p:=by
  intro x
  simp only [L,List.mem_map,List.mem_range]
  constructor
  ·rintro ⟨y,h,rfl⟩; omega
  ·intro h; exact ⟨x - 1,by omega,by omega⟩
 have hLn:L.Nodup:=by
  simp only [L,List.Nodup,List.pairwise_map]
  exact (List.nodup_range (n:=p - 1)).imp fun h e=>h (by omega)
 have hLl:L.length=p - 1:=by simp [L]
 have ne:∀ i j,0 < i->i < p->0 < j->j < p->i < j->a*i%p ≠ a*j%p:=by
  intro i j _ _ _ hj hij e
  have hle:a*i <= a*j:=Nat.mul_le_mul_left a (by omega)
  have hd:=dvd_of_mod_eq e.symm hle
  rw [<-Nat.mul_sub] at hd
  rcases hp.euclid hd with h | h
  ·exact ha h
  ·exact not_dvd_small (by omega) (by omega) h
 have hM:(L.map fun i=>a*i%p).Perm L:=by
  refine perm_sub ?_ ?_ (by rw [List.length_map])
  ·simp only [List.Nodup,List.pairwise_map]
   refine List.Pairwise.imp_of_mem ?_ hLn
   intro i j hi hj hij
   have hi:=(hL i).1 hi
   have hj:=(hL j).1 hj
   rcases Nat.lt_or_gt_of_ne hij with h | h
   ·exact ne i j hi.1 hi.2 hj.1 hj.2 h
   ·exact (ne j i hj.1 hj.2 hi.1 hi.2 h).symm
  ·intro x hx
   obtain ⟨i,hi,rfl⟩:=List.mem_map.1 hx
   have hi:=(hL i).1 hi
   refine (hL _).2 ⟨Nat.pos_of_ne_zero fun e=>?_,Nat.mod_lt _ (by omega)⟩
   rcases hp.euclid (Nat.dvd_of_mod_eq_zero e) with h | h
   ·exact ha h
   ·exact not_dvd_small hi.1 hi.2 h
 have e:=prodL_map a p L
 rw [prodL_perm hM,hLl] at e
 have hP:¬ p ∣ prodL L:=hp.cop_prod L fun x hx=>not_dvd_small ((hL x).1 hx).1 ((hL x).1 hx).2
 have hpos:0 < a ^ (p - 1):=Nat.pow_pos (Nat.pos_of_ne_zero fun e=>ha (e ▸ Nat.dvd_zero p))
 have hd:=dvd_of_mod_eq e.symm (Nat.le_mul_of_pos_left _ hpos)
 have hd2:p ∣ (a ^ (p - 1) - 1)*prodL L:=by rw [Nat.sub_mul,Nat.one_mul]; exact hd
 rcases hp.euclid hd2 with h | h
 ·obtain ⟨k,hk⟩:=h
  have:a ^ (p - 1)=1+p*k:=by omega
  rw [this,Nat.add_mul_mod_self_left,Nat.mod_eq_of_lt (by omega)]
 ·exact absurd h hP
theorem prime_dvd:∀ n,2 <= n->∃ q,Pr q /\ q ∣ n:=by
 intro n
 induction n using Nat.strongRecOn with
 | _ n ih=>
  intro hn
  by_cases h:∃ d,d ∣ n /\ d ≠ 1 /\ d ≠ n
  ·obtain ⟨d,h1,h2,h3⟩:=h
   have hp:0 < d:=Nat.pos_of_dvd_of_pos h1 (by omega)
   have hle:=Nat.le_of_dvd (by omega) h1
   obtain ⟨q,g1,g2⟩:=ih d (by omega) (by omega)
   exact ⟨q,g1,Nat.dvd_trans g2 h1⟩
  ·refine ⟨n,⟨hn,fun d hd=>?_⟩,Nat.dvd_refl n⟩
   by_cases h1:d=1
   ·exact .inl h1
   ·by_cases h2:d=n
    ·exact .inr h2
    ·exact absurd ⟨d,hd,h1,h2⟩ h
theorem prime_of_small {n:Nat} (hn:2 <= n) (h:∀ q,Pr q->q ∣ n->n < q*q):Pr n:=by
 refine ⟨hn,fun d hd=>?_⟩
 by_cases h1:d=1
 ·exact .inl h1
 by_cases h2:d=n
 ·exact .inr h2
 exfalso
 obtain ⟨e,he⟩:=hd
 have hd0:0 < d:=Nat.pos_of_ne_zero fun h0=>by rw [h0,Nat.zero_mul] at he; omega
 have he0:0 < e:=Nat.pos_of_ne_zero fun h0=>by rw [h0,Nat.mul_zero] at he; omega
 have he1:e ≠ 1:=fun h0=>by rw [h0,Nat.mul_one] at he; omega
 obtain ⟨q,q1,q2⟩:=prime_dvd d (by omega)
 obtain ⟨r,r1,r2⟩:=prime_dvd e (by omega)
 have a1:=h q q1 (Nat.dvd_trans q2 ⟨e,he⟩)
 have a2:=h r r1 (Nat.dvd_trans r2 ⟨d,by rw [he,Nat.mul_comm]⟩)
 have b1:=Nat.le_of_dvd hd0 q2
 have b2:=Nat.le_of_dvd he0 r2
 rcases Nat.le_total d e with hde | hde
 ·have:q*q <= d*e:=Nat.mul_le_mul b1 (Nat.le_trans b1 hde)
  omega
 ·have:r*r <= d*e:=Nat.mul_le_mul (Nat.le_trans b2 hde) b2
  omega
theorem pow_mod_one {a r k:Nat} (h:a ^ k%r=1%r) (m:Nat):a ^ (k*m)%r=1%r:=by
 rw [Nat.pow_mul,Nat.pow_mod,h,<-Nat.pow_mod,Nat.one_pow]
theorem pow_gcd {a r:Nat} (hr:1 < r) (hc:Nat.Coprime r a):∀ (m n:Nat),a ^ m%r=1->a ^ n%r=1->a ^ Nat.gcd m n%r=1:=by
 intro m
 induction m using Nat.strongRecOn with
 | _ m ih=>
  intro n hm hn
  rcases Nat.eq_zero_or_pos m with rfl | h0
  ·rw [Nat.gcd_zero_left]; exact hn
  ·rw [Nat.gcd_rec]
   refine ih (n%m) (Nat.mod_lt _ h0) m ?_ hm
   have e:a ^ n=a ^ (m*(n / m))*a ^ (n%m):=by rw [<-Nat.pow_add,Nat.div_add_mod]
   have h1:a ^ (m*(n / m))%r=1:=by
    have:=pow_mod_one (a:=a) (r:=r) (k:=m) (by rw [hm,Nat.mod_eq_of_lt hr]) (n / m)
    rwa [Nat.mod_eq_of_lt hr] at this
   rw [e,Nat.mul_mod,h1,Nat.one_mul,Nat.mod_mod] at hn
   exact hn
theorem pocklington {n F R:Nat} (hn:2 <= n) (hF:n - 1=F*R) (hroot:n < (F+1)*(F+1)) (hq:∀ q e,Pr q->q ^ (e+1) ∣ F->∃ a,a ^ (n - 1)%n=1 /\ Nat.Coprime (a ^ ((n - 1) / q) - 1) n /\ 0 < a) (hpp:∀ d,(∀ q e,Pr q->q ^ (e+1) ∣ F->q ^ (e+1) ∣ d)->F ∣ d):Pr n:=by
 refine prime_of_small hn fun r hr hrn=>?_
 have hr1:=hr.1
 have key:F ∣ r - 1:=by
  refine hpp (r - 1) fun q e hqp hqe=>?_
  obtain ⟨a,h1,h2,h3⟩:=hq q e hqp hqe
  have hmod:a ^ (n - 1)%r=1:=by
   have:a ^ (n - 1)%r=a ^ (n - 1)%n%r:=(Nat.mod_mod_of_dvd _ hrn).symm
   rw [this,h1,Nat.mod_eq_of_lt (by omega)]
  have hra:¬ r ∣ a:=fun hd=>by
   have:r ∣ a ^ (n - 1):=by
    obtain ⟨k,hk⟩:∃ k,n - 1=k+1:=⟨n - 2,by omega⟩
    rw [hk,Nat.pow_succ]
    exact Nat.dvd_trans hd (Nat.dvd_mul_left a _)
   have:=Nat.mod_eq_zero_of_dvd this
   omega
  have hf:=fermat hr hra
  have hg:=pow_gcd (by omega) (hr.cop hra) (n - 1) (r - 1) hmod hf
  -- the gcd holds all of q^(e+1),else (n-1)/q is a multiple of it
  have hqn:q ^ (e+1) ∣ n - 1:=Nat.dvd_trans hqe ⟨R,hF⟩
  by_cases hd:q ^ (e+1) ∣ Nat.gcd (n - 1) (r - 1)
  ·exact Nat.dvd_trans hd (Nat.gcd_dvd_right _ _)
  ·exfalso
   obtain ⟨k,hk⟩:=Nat.gcd_dvd_left (n - 1) (r - 1)
   have hq2:=hqp.1
   have hqk:q ∣ k:=by
    by_cases hqk:q ∣ k
    ·exact hqk
    ·exact absurd (((hqp.cop hqk).pow_left (e+1)).dvd_of_dvd_mul_right (hk ▸ hqn)) hd
   obtain ⟨m,rfl⟩:=hqk
   have hdiv:(n - 1) / q=Nat.gcd (n - 1) (r - 1)*m:=by
    conv=>lhs; rw [hk]
    rw [Nat.mul_left_comm,Nat.mul_div_cancel_left _ (by omega)]
   have h4:a ^ ((n - 1) / q)%r=1:=by
    rw [hdiv]
    have:=pow_mod_one (a:=a) (r:=r) (k:=Nat.gcd (n - 1) (r - 1)) (by rw [hg,Nat.mod_eq_of_lt (by omega)]) m
    rwa [Nat.mod_eq_of_lt (by omega:1 < r)] at this
   have h5:r ∣ a ^ ((n - 1) / q) - 1:=by
    have h6:=Nat.div_add_mod (a ^ ((n - 1) / q)) r
    rw [h4] at h6
    exact ⟨a ^ ((n - 1) / q) / r,by omega⟩
   have h7:=Nat.dvd_gcd h5 hrn
   rw [h2] at h7
   have:=Nat.le_of_dvd (by decide) h7
   omega
 have hle:F <= r - 1:=Nat.le_of_dvd (by omega) key
 calc n < (F+1)*(F+1):=hroot
  _ <= r*r:=Nat.mul_le_mul (by omega) (by omega)
def pm (a n:Nat):Nat->Nat->Nat
 | 0,_=>1%n
 | f+1,e=>cond (Nat.beq (e%2) 1) (pm a n f (e / 2) ^ 2%n*a%n) (pm a n f (e / 2) ^ 2%n)
theorem pm_eq (a n:Nat):∀ (f e:Nat),e < 2 ^ f->pm a n f e=a ^ e%n:=by
 intro f
 induction f with
 | zero => intro e h; have : e = 0 := by simpa using h
           subst this; rfl
 | succ f ih=>
  intro e h
  have h2:e / 2 < 2 ^ f:=by rw [Nat.pow_succ] at h; omega
  have hd:=Nat.div_add_mod e 2
  have hsq:(a ^ (e / 2)%n) ^ 2%n=a ^ (2*(e / 2))%n:=by
   rw [<-Nat.pow_mod,<-Nat.pow_mul,Nat.mul_comm]
  rw [pm,ih _ h2,hsq]
  cases hb:Nat.beq (e%2) 1
  ·have h0:e%2=0:=by
    have:¬ e%2=1:=fun h=>by rw [h] at hb; cases hb
    omega
   rw [cond_false]
   rw [h0,Nat.add_zero] at hd
   rw [hd]
  ·have h1:=Nat.eq_of_beq_eq_true hb
   rw [cond_true,Nat.mod_mul_mod,<-Nat.pow_succ]
   rw [h1] at hd
   exact congrArg (fun k=>a ^ k%n) hd
theorem prime_list:∀ {l:List Nat} {q:Nat},(∀ x ∈ l,Pr x)->Pr q->q ∣ prodL l->q ∈ l:=by
 intro l
 induction l with
 | nil=>
  intro q _ hq h
  have:=Nat.le_of_dvd (by decide) h
  have:=hq.1
  simp only [prodL] at *
  omega
 | cons x l ih=>
  intro q hl hq h
  rcases hq.euclid h with h | h
  ·rcases (hl x (by simp)).2 q h with h1 | h1
   ·have:=hq.1; omega
   ·simp [h1]
  ·exact List.mem_cons_of_mem _ (ih (fun y hy=>hl y (by simp [hy])) hq h)
theorem prod_dvd:∀ {l:List Nat} {d:Nat},(∀ x ∈ l,Pr x)->l.Nodup->(∀ x ∈ l,x ∣ d)->prodL l ∣ d:=by
 intro l
 induction l with
 | nil=>intro d _ _ _; exact Nat.one_dvd d
 | cons x l ih=>
  intro d hl hn hd
  obtain ⟨h1,h2⟩:=List.nodup_cons.1 hn
  have hx:=hl x (by simp)
  have hc:Nat.Coprime x (prodL l):=hx.cop fun h=>h1 (prime_list (fun y hy=>hl y (by simp [hy])) hx h)
  exact hc.mul_dvd_of_dvd_of_dvd (hd x (by simp)) (ih (fun y hy=>hl y (by simp [hy])) h2 fun y hy=>hd y (by simp [hy]))
def pockB (n:Nat) (qs:List Nat) (a f:Nat):Bool :=
 Nat.ble 2 n && Nat.beq ((n - 1)%prodL qs) 0 && Nat.blt n ((prodL qs+1)*(prodL qs+1)) && Nat.blt 0 a && Nat.blt (n - 1) (2 ^ f) && Nat.beq (pm a n f (n - 1)) 1 && qs.all fun q=>Nat.ble 1 (pm a n f ((n - 1) / q)) && Nat.beq (Nat.gcd (pm a n f ((n - 1) / q) - 1) n) 1
theorem cop_mod {x n:Nat} (h:Nat.gcd (x%n - 1) n=1) (h1:1 <= x%n):Nat.Coprime (x - 1) n:=by
 have hx:=Nat.div_add_mod x n
 have e:x - 1=(x%n - 1)+n*(x / n):=by omega
 unfold Nat.Coprime
 rw [e,Nat.gcd_add_mul_left_left]
 exact h
theorem pock {n:Nat} (qs:List Nat) (a f:Nat) (hq:∀ q ∈ qs,Pr q) (hnd:qs.Nodup) (h:pockB n qs a f=true):Pr n:=by
 simp only [pockB,Bool.and_eq_true] at h
 obtain ⟨⟨⟨⟨⟨⟨h1,h2⟩,h3⟩,h4⟩,h5⟩,h6⟩,h7⟩:=h
 have h1:=Nat.le_of_ble_eq_true h1
 have h2:=Nat.eq_of_beq_eq_true h2
 have h3:=Nat.blt_eq.mp h3
 have h4:=Nat.blt_eq.mp h4
 have h5:=Nat.blt_eq.mp h5
 have h6:=Nat.eq_of_beq_eq_true h6
 rw [pm_eq a n f _ h5] at h6
 have hF:n - 1=prodL qs*((n - 1) / prodL qs):=by
  have:=Nat.div_add_mod (n - 1) (prodL qs)
  omega
 refine pocklington h1 hF h3 (fun q e hqp hqe=>?_) (fun d hd=>?_)
 ·have hm:=prime_list hq hqp (Nat.dvd_trans (by rw [Nat.pow_succ]; exact Nat.dvd_mul_left q _) hqe)
  have h8:=List.all_eq_true.1 h7 q hm
  rw [Bool.and_eq_true] at h8
  have hlt:(n - 1) / q < 2 ^ f:=Nat.lt_of_le_of_lt (Nat.div_le_self ..) h5
  rw [pm_eq a n f _ hlt] at h8
  exact ⟨a,h6,cop_mod (Nat.eq_of_beq_eq_true h8.2) (Nat.le_of_ble_eq_true h8.1),h4⟩
 ·refine prod_dvd hq hnd fun x hx=>?_
  have hp:=hq x hx
  have:x ∣ prodL qs:=by
   have key:∀ l:List Nat,x ∈ l->x ∣ prodL l:=by
    intro l
    induction l with
    | nil=>intro h; cases h
    | cons y l ih=>
     intro h
     rcases List.mem_cons.1 h with rfl | h
     ·exact Nat.dvd_mul_right _ _
     ·exact Nat.dvd_trans (ih h) (Nat.dvd_mul_left _ _)
   exact key qs hx
  have:=hd x 0 hp (by simpa using this)
  simpa using this
def smallB (n:Nat):Bool:=Nat.ble 2 n && (List.range n).all fun d=>Nat.ble d 1 || !(Nat.beq (n%d) 0)
theorem small {n:Nat} (h:smallB n=true):Pr n:=by
 simp only [smallB,Bool.and_eq_true] at h
 have h1:=Nat.le_of_ble_eq_true h.1
 refine ⟨h1,fun d hd=>?_⟩
 by_cases e:d=n
 ·exact .inr e
 left
 have hle:=Nat.le_of_dvd (by omega) hd
 have hp:=Nat.pos_of_dvd_of_pos hd (by omega)
 have:=List.all_eq_true.1 h.2 d (List.mem_range.2 (by omega))
 rw [Bool.or_eq_true] at this
 rcases this with h2 | h2
 ·have:=Nat.le_of_ble_eq_true h2; omega
 ·rw [Nat.mod_eq_zero_of_dvd hd] at h2; cases h2
theorem pr2:Pr 2:=small (by decide +kernel)
theorem pr3:Pr 3:=small (by decide +kernel)
theorem pr353:Pr 353:=small (by decide +kernel)
theorem pr487:Pr 487:=small (by decide +kernel)
theorem pr131:Pr 131:=small (by decide +kernel)
theorem pr7:Pr 7:=small (by decide +kernel)
theorem pr3727:Pr 3727:=small (by decide +kernel)
theorem pr1723:Pr 1723:=small (by decide +kernel)
theorem pr4153:Pr 4153:=small (by decide +kernel)
theorem pr57467:Pr 57467:=pock [487] 2 20 (by simp [pr487]) (by decide) (by decide +kernel)
theorem pr132049:Pr 132049:=pock [131,7] 2 20 (by simp [pr131,pr7]) (by decide) (by decide +kernel)
theorem pr1923133:Pr 1923133:=pock [3727] 2 25 (by simp [pr3727]) (by decide) (by decide +kernel)
theorem pr430751:Pr 430751:=pock [1723] 2 20 (by simp [pr1723]) (by decide) (by decide +kernel)
theorem prR:Pr 31757755568855353:=pock [430751,4153] 2 60 (by simp [pr430751,pr4153]) (by decide) (by decide +kernel)
theorem prQ:Pr 74058212732561358302231226437062788676166966415465897661863160754340907:=pock [2,3,353,57467,132049,1923133,31757755568855353] 2 240 (by simp [pr2,pr3,pr353,pr57467,pr132049,pr1923133,prR]) (by decide) (by decide +kernel)
theorem prP:Pr 57896044618658097711785492504343953926634992332820282019728792003956564819949:=pock [74058212732561358302231226437062788676166966415465897661863160754340907] 2 255 (by simp [prQ]) (by decide) (by decide +kernel)
def expF (low:Nat):Nat->Nat
 | 0=>0
 | i+1=>cond (decide (8 <= i) || Nat.beq (low / 2 ^ i%2) 1) (2 ^ i) 0+expF low i
theorem pow_two_succ (a i:Nat):(a*a) ^ (2 ^ i)=a ^ (2 ^ (i+1)):=by
 rw [<-Nat.pow_two,<-Nat.pow_mul,Nat.pow_succ,Nat.mul_comm]
theorem pow_mod_congr {a b p:Nat} (h:a%p=b%p) (k:Nat):a ^ k%p=b ^ k%p:=by
 rw [Nat.pow_mod,h,<-Nat.pow_mod]
theorem mul_mod_congr {a b c d p:Nat} (h:a%p=b%p) (h2:c%p=d%p):a*c%p=b*d%p:=by
 rw [Nat.mul_mod,h,h2,<-Nat.mul_mod]
theorem pow_val (x:Fe) (low:Nat):∀ (i:Nat) (o:Fe),fv (powF x low i o)%P25=fv o ^ (2 ^ i)*fv x ^ expF low i%P25:=by
 intro i
 induction i with
 | zero=>intro o; simp only [powF,expF,Nat.pow_zero,Nat.pow_one,Nat.mul_one]
 | succ i ih=>
  intro o
  rw [powF,expF,ih]
  have hs:=mul_mod o o
  have hm:fv (mulF (mulF o o) x)%P25=fv o*fv o*fv x%P25:=by
   rw [mul_mod (mulF o o) x]
   exact mul_mod_congr hs rfl
  cases (decide (8 <= i) || Nat.beq (low / 2 ^ i%2) 1)
  ·rw [cond_false,cond_false,Nat.zero_add]
   refine mul_mod_congr ?_ rfl
   rw [pow_mod_congr hs,pow_two_succ]
  ·rw [cond_true,cond_true]
   have e:(fv o*fv o*fv x) ^ (2 ^ i)*fv x ^ expF low i=fv o ^ (2 ^ (i+1))*fv x ^ (2 ^ i+expF low i):=by
    rw [Nat.mul_pow,pow_two_succ,Nat.mul_assoc,<-Nat.pow_add]
   rw [<-e]
   exact mul_mod_congr (pow_mod_congr hm _) rfl
theorem fv_one:fv (fe 1)=1:=by decide +kernel
theorem pow_val1 (x:Fe) (low i:Nat):fv (powF x low i (fe 1))%P25=fv x ^ expF low i%P25:=by
 rw [pow_val,fv_one,Nat.one_pow,Nat.one_mul]
theorem exp_inv1:expF 235 255+1=P25 - 1:=by decide +kernel
theorem fermat_succ {p a e:Nat} (hp:Pr p) (ha:¬ p ∣ a) (he:e+1=p - 1):a*a ^ e%p=1:=by
 have:=fermat hp ha
 rwa [<-he,Nat.pow_succ,Nat.mul_comm] at this
theorem inv_mul (x:Fe) (h:fv x%P25 ≠ 0):fv (mulF x (powF x 235 255 (fe 1)))%P25=1:=by
 have hd:¬ P25 ∣ fv x:=fun hd=>h (Nat.mod_eq_zero_of_dvd hd)
 rw [mul_mod,mul_mod_congr (c:=fv (powF x 235 255 (fe 1))) (d:=fv x ^ expF 235 255) rfl (pow_val1 x 235 255)]
 exact fermat_succ prP hd exp_inv1
theorem noZero {a b:Nat} (h:a*b%P25=0):a%P25=0 ∨ b%P25=0:=by
 rcases Pr.euclid (p:=P25) prP (Nat.dvd_of_mod_eq_zero h) with h | h
 ·exact .inl (Nat.mod_eq_zero_of_dvd h)
 ·exact .inr (Nat.mod_eq_zero_of_dvd h)
def cg (a b:Int):Prop:=∃ k:Int,a=b+57896044618658097711785492504343953926634992332820282019728792003956564819949*k
theorem cg.refl (a:Int):cg a a:=⟨0,by omega⟩
theorem cg.symm {a b:Int} (h:cg a b):cg b a:=by
 obtain ⟨k,h⟩:=h
 exact ⟨-k,by omega⟩
theorem cg.trans {a b c:Int} (h:cg a b) (h2:cg b c):cg a c:=by
 obtain ⟨k,h⟩:=h
 obtain ⟨l,h2⟩:=h2
 exact ⟨k+l,by omega⟩
theorem cg.add {a b c d:Int} (h:cg a b) (h2:cg c d):cg (a+c) (b+d):=by
 obtain ⟨k,h⟩:=h
 obtain ⟨l,h2⟩:=h2
 exact ⟨k+l,by omega⟩
theorem cg.sub {a b c d:Int} (h:cg a b) (h2:cg c d):cg (a - c) (b - d):=by
 obtain ⟨k,h⟩:=h
 obtain ⟨l,h2⟩:=h2
 exact ⟨k - l,by omega⟩
theorem cg.neg {a b:Int} (h:cg a b):cg (-a) (-b):=by
 obtain ⟨k,h⟩:=h
 exact ⟨-k,by omega⟩
theorem cg.mul {a b c d:Int} (h:cg a b) (h2:cg c d):cg (a*c) (b*d):=by
 obtain ⟨k,h⟩:=h
 obtain ⟨l,h2⟩:=h2
 refine ⟨b*l+k*d+57896044618658097711785492504343953926634992332820282019728792003956564819949*k*l,?_⟩
 rw [h,h2]
 grind
theorem cg.pow {a b:Int} (h:cg a b):∀ k:Nat,cg (a ^ k) (b ^ k):=by
 intro k
 induction k with
 | zero=>rw [Int.pow_zero,Int.pow_zero]; exact cg.refl _
 | succ k ih=>rw [Int.pow_succ,Int.pow_succ]; exact ih.mul h
theorem cg_nat {a b:Nat}:cg (a:Int) (b:Int) ↔ a%P25=b%P25:=by
 constructor
 ·rintro ⟨k,h⟩
  simp only [P25]
  omega
 ·intro h
  refine ⟨((a / P25:Nat):Int) - ((b / P25:Nat):Int),?_⟩
  have h1:=Nat.div_add_mod a P25
  have h2:=Nat.div_add_mod b P25
  simp only [P25] at *
  omega
theorem cg_fmul (x y:Fe):cg (fv (mulF x y):Int) ((fv x:Int)*(fv y:Int)):=by
 have:=cg_nat.2 (show fv (mulF x y)%P25=(fv x*fv y)%P25 from mul_mod x y)
 rwa [Int.natCast_mul] at this
theorem cg_fpow (x:Fe) (low i:Nat):cg (fv (powF x low i (fe 1)):Int) ((fv x:Int) ^ expF low i):=by
 have:=cg_nat.2 (show fv (powF x low i (fe 1))%P25=(fv x ^ expF low i)%P25 from pow_val1 x low i)
 rwa [Int.natCast_pow] at this
theorem cg_zero {a:Nat}:cg (a:Int) 0 ↔ a%P25=0:=by
 have:=@cg_nat a 0
 rwa [Nat.zero_mod] at this
theorem cg_nozero {a b:Int} (h:cg (a*b) 0):cg a 0 ∨ cg b 0:=by
 have ea:cg a ((a%57896044618658097711785492504343953926634992332820282019728792003956564819949).toNat:Int):=⟨a / 57896044618658097711785492504343953926634992332820282019728792003956564819949,by omega⟩
 have eb:cg b ((b%57896044618658097711785492504343953926634992332820282019728792003956564819949).toNat:Int):=⟨b / 57896044618658097711785492504343953926634992332820282019728792003956564819949,by omega⟩
 generalize (a%57896044618658097711785492504343953926634992332820282019728792003956564819949).toNat=x at *
 generalize (b%57896044618658097711785492504343953926634992332820282019728792003956564819949).toNat=y at *
 have hm:=((ea.mul eb).symm).trans h
 rw [<-Int.natCast_mul] at hm
 rcases noZero (cg_zero.1 hm) with h1 | h1
 ·exact .inl (ea.trans (cg_zero.2 h1))
 ·exact .inr (eb.trans (cg_zero.2 h1))
theorem cg_sq {a b:Int} (h:cg (a*a) (b*b)):cg a b ∨ cg a (-b):=by
 have h2:cg ((a - b)*(a+b)) 0:=by
  obtain ⟨k,h⟩:=h
  refine ⟨k,?_⟩
  have:(a - b)*(a+b)=a*a - b*b:=by grind
  rw [this,h]; omega
 rcases cg_nozero h2 with h3 | h3
 ·left
  have:=h3.add (cg.refl b)
  rwa [Int.sub_add_cancel,Int.zero_add] at this
 ·right
  have:=h3.sub (cg.refl b)
  rwa [Int.add_sub_cancel,Int.zero_sub] at this
theorem cg_fermat {a:Int} (h:¬ cg a 0) (e:Nat) (he:e=P25 - 1):cg (a ^ e) 1:=by
 have ea:cg a ((a%57896044618658097711785492504343953926634992332820282019728792003956564819949).toNat:Int):=⟨a / 57896044618658097711785492504343953926634992332820282019728792003956564819949,by omega⟩
 generalize (a%57896044618658097711785492504343953926634992332820282019728792003956564819949).toNat=x at *
 have hx:¬ P25 ∣ x:=fun hd=>h (ea.trans (cg_zero.2 (Nat.mod_eq_zero_of_dvd hd)))
 have hf:=fermat prP hx
 have h1:(1:Nat)%P25=1:=by decide
 have:=cg_nat.2 (show x ^ (P25 - 1)%P25=1%P25 by rw [hf,h1])
 rw [Int.natCast_pow] at this
 rw [he]
 exact (ea.pow _).trans this
theorem cg_half {a:Int} (h:¬ cg a 0) (k:Nat) (hk:k+k=P25 - 1):cg (a ^ k) 1 ∨ cg (a ^ k) (-1):=by
 have hf:=cg_fermat h (k+k) hk
 rw [Int.pow_add] at hf
 have:cg (a ^ k*a ^ k) (1*1):=hf
 exact cg_sq this
def absV (a:Nat):Nat:=if a%2=1 then 57896044618658097711785492504343953926634992332820282019728792003956564819949 - a else a
theorem neg_val {z f:Fe} (hz:fOk z) (hf:fv f=0):fv (subF f z)%P25=(57896044618658097711785492504343953926634992332820282019728792003956564819949 - fv z%P25)%P25:=by
 have h:=sub_mod (x:=f) hz
 rw [hf,Nat.zero_mod] at h
 have h1:=Nat.div_add_mod (fv (subF f z)+fv z) P25
 have h2:=Nat.div_add_mod (fv (subF f z)) P25
 have h3:=Nat.div_add_mod (fv z) P25
 have l2:fv (subF f z)%P25 < P25:=Nat.mod_lt _ (by decide)
 have l3:fv z%P25 < P25:=Nat.mod_lt _ (by decide)
 simp only [P25] at *
 omega
theorem abs_val {z f:Fe} (hz:fOk z) (hf:fv f=0):fv (cond (Nat.beq (fv z%P25%2) 1) (subF f z) z)%P25=absV (fv z%P25):=by
 have l3:fv z%P25 < P25:=Nat.mod_lt _ (by decide)
 cases hb:Nat.beq (fv z%P25%2) 1
 ·have h0:¬ fv z%P25%2=1:=fun h=>by rw [h] at hb; cases hb
  rw [cond_false,absV,if_neg h0]
 ·have h1:=Nat.eq_of_beq_eq_true hb
  rw [cond_true,neg_val hz hf,absV,if_pos h1]
  simp only [P25] at *
  omega
open Go Go.Proofs
set_option linter.unusedSimpArgs false
section
variable (T0:Type) (R0:List AV->Option T0) (f0a f0b f0c f0d f0e:T0->Int)
def g_FIi:Cg:=⟨⟨gam [(nF84,⟨R0,fun t=>AV.agg (.ints .u64 [(f0a t),(f0b t),(f0c t),(f0d t),(f0e t)]) 5⟩)],[],noE⟩,[]⟩
theorem FIi_ev (fu:Nat):afunc prog fF38 (g_FIi T0 R0 f0a f0b f0c f0d f0e) fu []=(R0 [.str ([(49:UInt8),57,54,56,49,49,54,49,51,55,54,55,48,55,53,48,53,57,53,54,56,48,55,48,55,57,51,48,52,57,56,56,53,52,50,48,49,53].append [(52:UInt8),52,54,48,54,54,53,49,53,57,50,51,56,57,48,49,54,50,55,52,52,48,50,49,48,55,51,49,50,51,56,50,57,55,56,52,55,53,50])]).bind fun t=>some (AV.agg (.ints .u64 [f0a t,f0b t,f0c t,f0d t,f0e t]) 5):=by kernel_rfl
end
section
variable (T0:Type) (R0:List AV->Option T0) (f0a f0b f0c f0d f0e:T0->Int) (T1:Type) (R1:List AV->Option T1) (f1a f1b f1c f1d f1e:T1->Int) (T2:Type) (R2:List AV->Option T2) (f2a f2b f2c f2d f2e:T2->Int) (T3:Type) (R3:List AV->Option T3) (T4:Type) (R4:List AV->Option T4) (f4a:T4->Bool) (T5:Type) (R5:List AV->Option T5) (f5a f5b f5c f5d f5e:T5->Int) (T6:Type) (R6:List AV->Option T6) (f6a f6b f6c f6d f6e:T6->Int)
def g_FRt:Cg:=⟨⟨gam [(nF40,⟨R0,fun t=>AV.agg (.ints .u64 [(f0a t),(f0b t),(f0c t),(f0d t),(f0e t)]) 5⟩),(nF39,⟨R1,fun t=>AV.agg (.ints .u64 [(f1a t),(f1b t),(f1c t),(f1d t),(f1e t)]) 5⟩),(nF89,⟨R2,fun t=>AV.agg (.ints .u64 [(f2a t),(f2b t),(f2c t),(f2d t),(f2e t)]) 5⟩),(nF38,⟨R3,fun t=>eF iF⟩),(nF90,⟨R4,fun t=>AV.bool (f4a t)⟩),(nF43,⟨R5,fun t=>AV.agg (.ints .u64 [(f5a t),(f5b t),(f5c t),(f5d t),(f5e t)]) 5⟩),(nF46,⟨R6,fun t=>AV.agg (.ints .u64 [(f6a t),(f6b t),(f6c t),(f6d t),(f6e t)]) 5⟩)],[],noE⟩,[]⟩
theorem FRt_ev (fu:Nat) (a b c d e f g h i j:Int):afunc prog fF45 (g_FRt T0 R0 f0a f0b f0c f0d f0e T1 R1 f1a f1b f1c f1d f1e T2 R2 f2a f2b f2c f2d f2e T3 R3 T4 R4 f4a T5 R5 f5a f5b f5c f5d f5e T6 R6 f6a f6b f6c f6d f6e) fu [.agg (.ints .u64 [a,b,c,d,e]) 5,.agg (.ints .u64 [f,g,h,i,j]) 5]=(R0 [.agg (.ints .u64 [f,g,h,i,j]) 5]).bind fun t=>(R1 [.agg (.ints .u64 [f0a t,f0b t,f0c t,f0d t,f0e t]) 5,.agg (.ints .u64 [f,g,h,i,j]) 5]).bind fun t=>(R0 [.agg (.ints .u64 [f1a t,f1b t,f1c t,f1d t,f1e t]) 5]).bind fun t_1=>(R1 [.agg (.ints .u64 [f0a t_1,f0b t_1,f0c t_1,f0d t_1,f0e t_1]) 5,.agg (.ints .u64 [f,g,h,i,j]) 5]).bind fun t_2=>(R1 [.agg (.ints .u64 [a,b,c,d,e]) 5,.agg (.ints .u64 [f1a t,f1b t,f1c t,f1d t,f1e t]) 5]).bind fun t=>(R1 [.agg (.ints .u64 [a,b,c,d,e]) 5,.agg (.ints .u64 [f1a t_2,f1b t_2,f1c t_2,f1d t_2,f1e t_2]) 5]).bind fun t_3=>(R2 [.agg (.ints .u64 [f1a t_3,f1b t_3,f1c t_3,f1d t_3,f1e t_3]) 5]).bind fun t_4=>(R1 [.agg (.ints .u64 [f1a t,f1b t,f1c t,f1d t,f1e t]) 5,.agg (.ints .u64 [f2a t_4,f2b t_4,f2c t_4,f2d t_4,f2e t_4]) 5]).bind fun t=>(R0 [.agg (.ints .u64 [f1a t,f1b t,f1c t,f1d t,f1e t]) 5]).bind fun t_5=>(R1 [.agg (.ints .u64 [f,g,h,i,j]) 5,.agg (.ints .u64 [f0a t_5,f0b t_5,f0c t_5,f0d t_5,f0e t_5]) 5]).bind fun t_6=>(R3 []).bind fun t_7=>(R4 [.agg (.ints .u64 [f1a t_6,f1b t_6,f1c t_6,f1d t_6,f1e t_6]) 5,.agg (.ints .u64 [a,b,c,d,e]) 5]).bind fun t_8=>(R5 [.agg (.ints .u64 [a,b,c,d,e]) 5]).bind fun t_9=>(R4 [.agg (.ints .u64 [f1a t_6,f1b t_6,f1c t_6,f1d t_6,f1e t_6]) 5,.agg (.ints .u64 [f5a t_9,f5b t_9,f5c t_9,f5d t_9,f5e t_9]) 5]).bind fun t_10=>(R5 [.agg (.ints .u64 [a,b,c,d,e]) 5]).bind fun t_11=>(R1 [.agg (.ints .u64 [f5a t_11,f5b t_11,f5c t_11,f5d t_11,f5e t_11]) 5,.agg (.ints .u64 [(1718705420411056:Int),234908883556509,2233514472574048,2117202627021982,765476049583133]) 5]).bind fun t_12=>(R4 [.agg (.ints .u64 [f1a t_6,f1b t_6,f1c t_6,f1d t_6,f1e t_6]) 5,.agg (.ints .u64 [f1a t_12,f1b t_12,f1c t_12,f1d t_12,f1e t_12]) 5]).bind fun t_13=>bif f4a t_10 || f4a t_13 then (R1 [.agg (.ints .u64 [f1a t,f1b t,f1c t,f1d t,f1e t]) 5,.agg (.ints .u64 [(1718705420411056:Int),234908883556509,2233514472574048,2117202627021982,765476049583133]) 5]).bind fun t=>(R6 [.agg (.ints .u64 [f1a t,f1b t,f1c t,f1d t,f1e t]) 5]).bind fun t=>some (AV.tup [.s (.pl (.agg (.ints .u64 [f6a t,f6b t,f6c t,f6d t,f6e t]) 5)),.s (.pl (.bool (f4a t_8 || f4a t_10)))]) else (R6 [.agg (.ints .u64 [f1a t,f1b t,f1c t,f1d t,f1e t]) 5]).bind fun t=>some (AV.tup [.s (.pl (.agg (.ints .u64 [f6a t,f6b t,f6c t,f6d t,f6e t]) 5)),.s (.pl (.bool (f4a t_8 || f4a t_10)))]):=by kernel_rfl
end
set_option maxRecDepth 4000
theorem eF_iF:eF iF=AV.agg (.ints .u64 [1718705420411056,234908883556509,2233514472574048,2117202627021982,765476049583133]) 5:=by kernel_rfl
theorem iF_ok:fOk iF:=fe_ok _
def iS:Str:=[49,57,54,56,49,49,54,49,51,55,54,55,48,55,53,48,53,57,53,54,56,48,55,48,55,57,51,48,52,57,56,56,53,52,50,48,49,53,52,52,54,48,54,54,53,49,53,57,50,51,56,57,48,49,54,50,55,52,52,48,50,49,48,55,51,49,50,51,56,50,57,55,56,52,55,53,50]
theorem iS_val:(decE iS).1%P25=19681161376707505956807079304988542015446066515923890162744021073123829784752:=by decide +kernel
abbrev gI_FIi:Cg:=g_FIi (Fe) rFDec (fun t=>↑t.a) (fun t=>↑t.b) (fun t=>↑t.c) (fun t=>↑t.d) (fun t=>↑t.e)
theorem gok_FIi:CfOk prog gI_FIi.c:=⟨gam_cons ok_FDec <| gam_nil,fun _ _ h=>by cases h⟩
theorem ok_FI:CallOk prog nF38 sFI:=by
 refine afunc_okE (g:=gI_FIi) (fu:=fun _=>0) mixed gok_FIi hF38 (by kernel_rfl) ?_
 intro args t ht
 unfold sFI at ht
 simp only at ht
 split at ht
 ·refine (FIi_ev ..).trans ?_
  have d:=run_FDec (s:=iS) (by decide +kernel)
  rw [iS_val] at d
  refine (congrArg (fun o=>Option.bind o _) d).trans ?_
  rfl
 ·cases ht
abbrev gI_FRt:Cg:=g_FRt (Fe) rFSq (fun t=>↑t.a) (fun t=>↑t.b) (fun t=>↑t.c) (fun t=>↑t.d) (fun t=>↑t.e) (Fe) rFMul (fun t=>↑t.a) (fun t=>↑t.b) (fun t=>↑t.c) (fun t=>↑t.d) (fun t=>↑t.e) (Fe) rRootF (fun t=>↑t.a) (fun t=>↑t.b) (fun t=>↑t.c) (fun t=>↑t.d) (fun t=>↑t.e) (Unit) rFI (Bool) rSam (fun t=>t) (Fe) rFNeg (fun t=>↑t.a) (fun t=>↑t.b) (fun t=>↑t.c) (fun t=>↑t.d) (fun t=>↑t.e) (Fe) rFAbs (fun t=>↑t.a) (fun t=>↑t.b) (fun t=>↑t.c) (fun t=>↑t.d) (fun t=>↑t.e)
theorem gok_FRt:CfOk prog gI_FRt.c:=⟨gam_cons ok_FSq <| gam_cons ok_FMul <| gam_cons ok_RootF <| gam_cons ok_FI <| gam_cons ok_Sam <| gam_cons ok_FNeg <| gam_cons ok_FAbs <| gam_nil,fun _ _ h=>by cases h⟩
theorem ok_FRat:CallOk prog nF45 sFRat:=by
 refine afunc_okE (g:=gI_FRt) (fu:=fun _=>0) mixed gok_FRt hF45 (by kernel_rfl) ?_
 intro args t ht
 obtain ⟨u,v,rfl,hu,hv,rfl⟩:=runF2_ok (F:=ratF) ht
 have h2:=mul_ok hv hv
 have h3:=mul_ok h2 hv
 have h6:=mul_ok h3 h3
 have h7:=mul_ok h6 hv
 have a3:=mul_ok hu h3
 have a7:=mul_ok hu h7
 have hr0:fOk (rootF (mulF u (mulF (mulF (mulF (mulF v v) v) (mulF (mulF v v) v)) v))):=pow_ok a7 (fe_ok 1)
 have hr:fOk (ratR u v):=mul_ok a3 hr0
 have hrr:=mul_ok hr hr
 have hc:=mul_ok hv hrr
 have hn:fOk (subF f0 u):=sub_ok f0_ok
 have hni:=mul_ok hn iF_ok
 have hri:=mul_ok hr iF_ok
 have e1:=run_FSq hv
 have e2:=run_FMul h2 hv
 have e3:=run_FSq h3
 have e4:=run_FMul h6 hv
 have e5:=run_FMul hu h3
 have e6:=run_FMul hu h7
 have e7:=run_RootF a7
 have e8:rFMul _=some (ratR u v):=run_FMul a3 hr0
 have e9:=run_FSq hr
 have e10:=run_FMul hv hrr
 have e11:=run_Sam hc hu
 have e12:=run_FNeg hu
 have e13:=run_Sam hc hn
 have e14:=run_FMul hn iF_ok
 have e15:=run_Sam hc hni
 have e16:=run_FMul hr iF_ok
 have e17:=run_FAbs hri
 have e18:=run_FAbs hr
 rw [eF_iF] at e14 e16
 simp only [eF] at e1 e2 e3 e4 e5 e6 e7 e8 e9 e10 e11 e12 e13 e14 e15 e16 e17 e18
 refine (FRt_ev ..).trans ?_
 rw [e1,Option.bind_some,e2,Option.bind_some,e3,Option.bind_some,e4,Option.bind_some,e5,Option.bind_some,e6,Option.bind_some,e7,Option.bind_some,e8,Option.bind_some,e9,Option.bind_some,e10,Option.bind_some,show rFI []=some () from rfl,Option.bind_some,e11,Option.bind_some,e12,Option.bind_some,e13,Option.bind_some,Option.bind_some,e14,Option.bind_some,e15,Option.bind_some]
 show _=some (sFRat.enc (ratF u v))
 rw [ratF]
 cases (samF (mulF v (mulF (ratR u v) (ratR u v))) (subF f0 u) || samF (mulF v (mulF (ratR u v) (ratR u v))) (mulF (subF f0 u) iF))
 ·rw [cond_false,e18,Option.bind_some]; rfl
 ·rw [cond_true,e16,Option.bind_some,e17,Option.bind_some]; rfl
theorem run_FRat {u v:Fe} (h:fOk u) (h2:fOk v):rFRat [eF u,eF v]=some (ratF u v):=by
 simp only [rFRat,sFRat]
 exact run_F2 ratF h h2
theorem sam_iff {x y:Fe}:samF x y=true ↔ cg (fv x:Int) (fv y:Int):=by
 rw [cg_nat,samF]
 constructor
 ·intro h; exact Nat.eq_of_beq_eq_true h
 ·intro h; rw [h]; exact Nat.beq_refl _
theorem f0_val:fv f0=0:=by decide
theorem abs_okF {z:Fe} (hz:fOk z):fOk (absF z):=by
 rw [absF]
 cases oddF z
 ·exact hz
 ·exact sub_ok f0_ok
end
end Go.Eng
