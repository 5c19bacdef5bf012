import Derived.Test.YtmicbaijcbkmjaaGreatZF2
namespace Go.Eng
noncomputable section
set_option linter.unusedVariables false
def Pr (p:Nat):Prop:=2 <= p /\ ∀ d,d ∣ p->d=1 ∨ d=p
theorem Pr.cop {p a:Nat} (hp:Pr p) (h:¬ p ∣ a):Nat.Coprime p a:=by
 rcases hp.2 (Nat.gcd p a) (Nat.gcd_dvd_left p a) with h1 | h1
 ·exact h1
 ·exact absurd (h1 ▸ Nat.gcd_dvd_right p a) h
theorem Pr.euclid {p a b:Nat} (hp:Pr p) (h:p ∣ a*b):p ∣ a ∨ p ∣ b:=by
 by_cases ha:p ∣ a
 ·exact .inl ha
 ·exact .inr ((hp.cop ha).dvd_of_dvd_mul_left h)
def j0:List Nat->Nat
 | []=>1
 | x :: r=>x*j0 r
theorem Tc {l m:List Nat} (h:l.Perm m):j0 l=j0 m:=by
 induction h with
 | nil=>rfl
 | cons x _ ih=>simp only [j0,ih]
 | swap x y l=>simp only [j0]; rw [<-d9,cG y x,d9]
 | trans _ _ h1 h2=>exact h1.trans h2
theorem aDJ:∀ {l m:List Nat},l.Nodup->(∀ x ∈ l,x ∈ m)->l.length=m.length->l.Perm m:=by
 intro l
 induction l with
 | nil=>intro m _ _ h; cases m with
  | nil=>exact .nil
  | cons _ _=>cases h
 | cons x l ih=>
  intro m hn hs hl;have hx:=hs x (by simp);have hp:=List.perm_cons_erase hx;obtain ⟨h1,h2⟩:=List.nodup_cons.1 hn;refine List.Perm.trans (List.Perm.cons x (ih h2 (λ y hy=>?_) ?_)) hp.symm
  ·have hm:=hs y (by simp [hy]);have hne:y ≠ x:=λ e=>h1 (e ▸ hy);exact (List.mem_erase_of_ne hne).2 hm
  ·have:=hp.length_eq;simp only [fF] at this hl;omega
theorem Zl (a p:Nat):∀ l:List Nat,j0 (l.map λ i=>a*i%p)%p=a ^ l.length*j0 l%p:=by
 intro l
 induction l with
 | nil=>rfl
 | cons x l ih=>
  simp only [mQ,j0,fF];rw [pU,ih,sL,<-pU,bM];congr 1;rw [cG (a ^ l.length) a,d9,d9,Eg x]
theorem Pr.cop_prod {p:Nat} (hp:Pr p):∀ l:List Nat,(∀ x ∈ l,¬ p ∣ x)->¬ p ∣ j0 l:=by
 intro l
 induction l with
 | nil=>
  intro _ h;have:=sJ (by decide) h;have:=hp.1;simp only [j0] at *;omega
 | cons x l ih=>
  intro hx h;rcases hp.euclid h with h | h
  ·exact hx x (by simp) h
  ·exact ih (λ y hy=>hx y (by simp [hy])) h
theorem u5 {p i:Nat} (h1:0 < i) (h2:i < p):¬ p ∣ i:=λ h=>by
 have:=sJ h1 h;omega
theorem CA {p x y:Nat} (h:x%p=y%p) (hle:y <= x):p ∣ x - y:=by
 have h1:=eO x p;have h2:=eO y p;have hd:y / p <= x / p:=Nat.div_le_div_right hle;refine ⟨x / p - y / p,?_⟩;rw [Nat.mul_sub];have:=yU p hd;omega
theorem Iq {p a:Nat} (hp:Pr p) (ha:¬ p ∣ a):a ^ (p - 1)%p=1:=by
 have h2:=hp.1;let L:=(List.range (p - 1)).map (·+1);have hL:∀ x,x ∈ L ↔ 0 < x /\ x < p:=by
  intro x;simp only [L,jZ,List.mem_range];constructor
  ·rintro ⟨y,h,rfl⟩; omega
  ·intro h; exact ⟨x - 1,by omega,by omega⟩
 have hLn:L.Nodup:=by
  simp only [L,List.Nodup,List.pairwise_map];exact (List.nodup_range (n:=p - 1)).imp λ h e=>h (by omega)
 have hLl:L.length=p - 1:=by simp [L]
 have ne:∀ i j,0 < i->i < p->0 < j->j < p->i < j->a*i%p ≠ a*j%p:=by
  intro i j _ _ _ hj hij e;have hle:a*i <= a*j:=yU a (by omega);have hd:=CA e.symm hle;rw [<-Nat.mul_sub] at hd;rcases hp.euclid hd with h | h
  ·exact ha h
  ·exact u5 (by omega) (by omega) h
 have hM:(L.map λ i=>a*i%p).Perm L:=by
  refine aDJ ?_ ?_ (by rw [iA])
  ·simp only [List.Nodup,List.pairwise_map];refine List.Pairwise.imp_of_mem ?_ hLn;intro i j hi hj hij;have hi:=(hL i).1 hi;have hj:=(hL j).1 hj;rcases Nat.lt_or_gt_of_ne hij with h | h
   ·exact ne i j hi.1 hi.2 hj.1 hj.2 h
   ·exact (ne j i hj.1 hj.2 hi.1 hi.2 h).symm
  ·intro x hx;obtain ⟨i,hi,rfl⟩:=jZ.1 hx;have hi:=(hL i).1 hi;refine (hL _).2 ⟨Hq λ e=>?_,bK _ (by omega)⟩;rcases hp.euclid (Nat.dvd_of_mod_eq_zero e) with h | h
   ·exact ha h
   ·exact u5 hi.1 hi.2 h
 have e:=Zl a p L;rw [Tc hM,hLl] at e;have hP:¬ p ∣ j0 L:=hp.cop_prod L λ x hx=>u5 ((hL x).1 hx).1 ((hL x).1 hx).2;have hpos:0 < a ^ (p - 1):=gS (Hq λ e=>ha (e ▸ Nat.dvd_zero p));have hd:=CA e.symm (Nat.le_mul_of_pos_left _ hpos);have hd2:p ∣ (a ^ (p - 1) - 1)*j0 L:=by rw [Nat.sub_mul,pV]; exact hd
 rcases hp.euclid hd2 with h | h
 ·obtain ⟨k,hk⟩:=h;have:a ^ (p - 1)=1+p*k:=by omega
  rw [this,BT,aV (by omega)]
 ·exact absurd h hP
theorem LG:∀ n,2 <= n->∃ q,Pr q /\ q ∣ n:=by
 intro n
 induction n using Nat.strongRecOn with
 | _ n ih=>
  intro hn;by_cases h:∃ d,d ∣ n /\ d ≠ 1 /\ d ≠ n
  ·obtain ⟨d,h1,h2,h3⟩:=h;have hp:0 < d:=Nat.pos_of_dvd_of_pos h1 (by omega);have hle:=sJ (by omega) h1;obtain ⟨q,g1,g2⟩:=ih d (by omega) (by omega);exact ⟨q,g1,pR g2 h1⟩
  ·refine ⟨n,⟨hn,λ d hd=>?_⟩,Nat.dvd_refl n⟩;by_cases h1:d=1
   ·exact .inl h1
   ·by_cases h2:d=n
    ·exact .inr h2
    ·exact absurd ⟨d,hd,h1,h2⟩ h
theorem Ir {n:Nat} (hn:2 <= n) (h:∀ q,Pr q->q ∣ n->n < q*q):Pr n:=by
 refine ⟨hn,λ d hd=>?_⟩;by_cases h1:d=1
 ·exact .inl h1
 by_cases h2:d=n
 ·exact .inr h2
 exfalso;obtain ⟨e,he⟩:=hd;have hd0:0 < d:=Hq λ h0=>by rw [h0,Nat.zero_mul] at he; omega
 have he0:0 < e:=Hq λ h0=>by rw [h0,sM] at he; omega
 have he1:e ≠ 1:=λ h0=>by rw [h0,iY] at he; omega
 obtain ⟨q,q1,q2⟩:=LG d (by omega);obtain ⟨r,r1,r2⟩:=LG e (by omega);have a1:=h q q1 (pR q2 ⟨e,he⟩);have a2:=h r r1 (pR r2 ⟨d,by rw [he,cG]⟩);have b1:=sJ hd0 q2;have b2:=sJ he0 r2;rcases Nat.le_total d e with hde | hde
 ·have:q*q <= d*e:=iJ b1 (cK b1 hde);omega
 ·have:r*r <= d*e:=iJ (cK b2 hde) b2;omega
theorem GF {a r k:Nat} (h:a ^ k%r=1%r) (m:Nat):a ^ (k*m)%r=1%r:=by
 rw [jK,BV,h,<-BV,Nat.one_pow]
theorem aJX {a r:Nat} (hr:1 < r) (hc:Nat.Coprime r a):∀ (m n:Nat),a ^ m%r=1->a ^ n%r=1->a ^ Nat.gcd m n%r=1:=by
 intro m
 induction m using Nat.strongRecOn with
 | _ m ih=>
  intro n hm hn;rcases Ee m with rfl | h0
  ·rw [Nat.gcd_zero_left]; exact hn
  ·rw [Nat.gcd_rec];refine ih (n%m) (bK _ h0) m ?_ hm;have e:a ^ n=a ^ (m*(n / m))*a ^ (n%m):=by rw [<-dM,eO]
   have h1:a ^ (m*(n / m))%r=1:=by
    have:=GF (a:=a) (r:=r) (k:=m) (by rw [hm,aV hr]) (n / m);rwa [aV hr] at this
   rw [e,pU,h1,pV,sL] at hn;exact hn
theorem Qa {n F R:Nat} (hn:2 <= n) (hF:n - 1=F*R) (hroot:n < (F+1)*(F+1)) (hq:∀ q e,Pr q->q ^ (e+1) ∣ F->∃ a,a ^ (n - 1)%n=1 /\ Nat.Coprime (a ^ ((n - 1) / q) - 1) n /\ 0 < a) (hpp:∀ d,(∀ q e,Pr q->q ^ (e+1) ∣ F->q ^ (e+1) ∣ d)->F ∣ d):Pr n:=by
 refine Ir hn λ r hr hrn=>?_;have hr1:=hr.1;have key:F ∣ r - 1:=by
  refine hpp (r - 1) λ q e hqp hqe=>?_;obtain ⟨a,h1,h2,h3⟩:=hq q e hqp hqe;have hmod:a ^ (n - 1)%r=1:=by
   have:a ^ (n - 1)%r=a ^ (n - 1)%n%r:=(Nat.mod_mod_of_dvd _ hrn).symm;rw [this,h1,aV (by omega)]
  have hra:¬ r ∣ a:=λ hd=>by
   have:r ∣ a ^ (n - 1):=by
    obtain ⟨k,hk⟩:∃ k,n - 1=k+1:=⟨n - 2,by omega⟩;rw [hk,bM];exact pR hd (Nat.dvd_mul_left a _)
   have:=uT this;omega
  have hf:=Iq hr hra;have hg:=aJX (by omega) (hr.cop hra) (n - 1) (r - 1) hmod hf
  -- the gcd holds all of q^(e+1),else (n-1)/q is a multiple of it
  have hqn:q ^ (e+1) ∣ n - 1:=pR hqe ⟨R,hF⟩;by_cases hd:q ^ (e+1) ∣ Nat.gcd (n - 1) (r - 1)
  ·exact pR hd (Nat.gcd_dvd_right _ _)
  ·exfalso;obtain ⟨k,hk⟩:=Nat.gcd_dvd_left (n - 1) (r - 1);have hq2:=hqp.1;have hqk:q ∣ k:=by
    by_cases hqk:q ∣ k
    ·exact hqk
    ·exact absurd (((hqp.cop hqk).pow_left (e+1)).dvd_of_dvd_mul_right (hk ▸ hqn)) hd
   obtain ⟨m,rfl⟩:=hqk;have hdiv:(n - 1) / q=Nat.gcd (n - 1) (r - 1)*m:=by
    conv=>lhs; rw [hk]
    rw [Eg,Nat.mul_div_cancel_left _ (by omega)]
   have h4:a ^ ((n - 1) / q)%r=1:=by
    rw [hdiv];have:=GF (a:=a) (r:=r) (k:=Nat.gcd (n - 1) (r - 1)) (by rw [hg,aV (by omega)]) m;rwa [aV (by omega:1 < r)] at this
   have h5:r ∣ a ^ ((n - 1) / q) - 1:=by
    have h6:=eO (a ^ ((n - 1) / q)) r;rw [h4] at h6;exact ⟨a ^ ((n - 1) / q) / r,by omega⟩
   have h7:=Nat.dvd_gcd h5 hrn;rw [h2] at h7;have:=sJ (by decide) h7;omega
 have hle:F <= r - 1:=sJ (by omega) key
 calc n < (F+1)*(F+1):=hroot
  _ <= r*r:=iJ (by omega) (by omega)
def pm (a n:Nat):Nat->Nat->Nat
 | 0,_=>1%n
 | f+1,e=>cond (Nat.beq (e%2) 1) (pm a n f (e / 2) ^ 2%n*a%n) (pm a n f (e / 2) ^ 2%n)
theorem Qb (a n:Nat):∀ (f e:Nat),e < 2 ^ f->pm a n f e=a ^ e%n:=by
 intro f
 induction f with
 | zero => intro e h; have : e = 0 := by simpa using h
           subst this; rfl
 | succ f ih=>
  intro e h;have h2:e / 2 < 2 ^ f:=by rw [bM] at h; omega
  have hd:=eO e 2;have hsq:(a ^ (e / 2)%n) ^ 2%n=a ^ (2*(e / 2))%n:=by
   rw [<-BV,<-jK,cG]
  rw [pm,ih _ h2,hsq];cases hb:Nat.beq (e%2) 1
  ·have h0:e%2=0:=by
    have:¬ e%2=1:=λ h=>by rw [h] at hb; cases hb
    omega
   rw [aD];rw [h0,fH] at hd;rw [hd]
  ·have h1:=aS hb;rw [aB,Nat.mod_mul_mod,<-bM];rw [h1] at hd;exact dQ (λ k=>a ^ k%n) hd
theorem Is:∀ {l:List Nat} {q:Nat},(∀ x ∈ l,Pr x)->Pr q->q ∣ j0 l->q ∈ l:=by
 intro l
 induction l with
 | nil=>
  intro q _ hq h;have:=sJ (by decide) h;have:=hq.1;simp only [j0] at *;omega
 | cons x l ih=>
  intro q hl hq h;rcases hq.euclid h with h | h
  ·rcases (hl x (by simp)).2 q h with h1 | h1
   ·have:=hq.1; omega
   ·simp [h1]
  ·exact yQ _ (ih (λ y hy=>hl y (by simp [hy])) hq h)
theorem aDK:∀ {l:List Nat} {d:Nat},(∀ x ∈ l,Pr x)->l.Nodup->(∀ x ∈ l,x ∣ d)->j0 l ∣ d:=by
 intro l
 induction l with
 | nil=>intro d _ _ _; exact Nat.one_dvd d
 | cons x l ih=>
  intro d hl hn hd;obtain ⟨h1,h2⟩:=List.nodup_cons.1 hn;have hx:=hl x (by simp);have hc:Nat.Coprime x (j0 l):=hx.cop λ h=>h1 (Is (λ y hy=>hl y (by simp [hy])) hx h);exact hc.mul_dvd_of_dvd_of_dvd (hd x (by simp)) (ih (λ y hy=>hl y (by simp [hy])) h2 λ y hy=>hd y (by simp [hy]))
def aON (n:Nat) (qs:List Nat) (a f:Nat):Bool :=
 Nat.ble 2 n && Nat.beq ((n - 1)%j0 qs) 0 && Nat.blt n ((j0 qs+1)*(j0 qs+1)) && Nat.blt 0 a && Nat.blt (n - 1) (2 ^ f) && Nat.beq (pm a n f (n - 1)) 1 && qs.all λ q=>Nat.ble 1 (pm a n f ((n - 1) / q)) && Nat.beq (Nat.gcd (pm a n f ((n - 1) / q) - 1) n) 1
theorem aJY {x n:Nat} (h:Nat.gcd (x%n - 1) n=1) (h1:1 <= x%n):Nat.Coprime (x - 1) n:=by
 have hx:=eO x n;have e:x - 1=(x%n - 1)+n*(x / n):=by omega
 unfold Nat.Coprime;rw [e,Nat.gcd_add_mul_left_left];exact h
theorem Td {n:Nat} (qs:List Nat) (a f:Nat) (hq:∀ q ∈ qs,Pr q) (hnd:qs.Nodup) (h:aON n qs a f=true):Pr n:=by
 simp only [aON,aX] at h;obtain ⟨⟨⟨⟨⟨⟨h1,h2⟩,h3⟩,h4⟩,h5⟩,h6⟩,h7⟩:=h;have h1:=cF h1;have h2:=aS h2;have h3:=dL.mp h3;have h4:=dL.mp h4;have h5:=dL.mp h5;have h6:=aS h6;rw [Qb a n f _ h5] at h6;have hF:n - 1=j0 qs*((n - 1) / j0 qs):=by
  have:=eO (n - 1) (j0 qs);omega
 refine Qa h1 hF h3 (λ q e hqp hqe=>?_) (λ d hd=>?_)
 ·have hm:=Is hq hqp (pR (by rw [bM]; exact Nat.dvd_mul_left q _) hqe);have h8:=rG.1 h7 q hm;rw [aX] at h8;have hlt:(n - 1) / q < 2 ^ f:=iI (pQ ..) h5;rw [Qb a n f _ hlt] at h8;exact ⟨a,h6,aJY (aS h8.2) (cF h8.1),h4⟩
 ·refine aDK hq hnd λ x hx=>?_;have hp:=hq x hx;have:x ∣ j0 qs:=by
   have key:∀ l:List Nat,x ∈ l->x ∣ j0 l:=by
    intro l
    induction l with
    | nil=>intro h; cases h
    | cons y l ih=>
     intro h;rcases mR.1 h with rfl | h
     ·exact Nat.dvd_mul_right _ _
     ·exact pR (ih h) (Nat.dvd_mul_left _ _)
   exact key qs hx
  have:=hd x 0 hp (by simpa using this);simpa using this
def aDL (n:Nat):Bool:=Nat.ble 2 n && (List.range n).all λ d=>Nat.ble d 1 || !(Nat.beq (n%d) 0)
theorem DW {n:Nat} (h:aDL n=true):Pr n:=by
 simp only [aDL,aX] at h;have h1:=cF h.1;refine ⟨h1,λ d hd=>?_⟩;by_cases e:d=n
 ·exact .inr e
 left;have hle:=sJ (by omega) hd;have hp:=Nat.pos_of_dvd_of_pos hd (by omega);have:=rG.1 h.2 d (List.mem_range.2 (by omega));rw [J7] at this;rcases this with h2 | h2
 ·have:=cF h2; omega
 ·rw [uT hd] at h2; cases h2
theorem pr2:Pr 2:=DW (by decide +kernel)
theorem pr3:Pr 3:=DW (by decide +kernel)
theorem aYc:Pr 353:=DW (by decide +kernel)
theorem aYd:Pr 487:=DW (by decide +kernel)
theorem aYe:Pr 131:=DW (by decide +kernel)
theorem pr7:Pr 7:=DW (by decide +kernel)
theorem aSV:Pr 3727:=DW (by decide +kernel)
theorem aSW:Pr 1723:=DW (by decide +kernel)
theorem aSX:Pr 4153:=DW (by decide +kernel)
theorem aJZ:Pr 57467:=Td [487] 2 20 (by simp [aYd]) (by decide) (by decide +kernel)
theorem aDM:Pr 132049:=Td [131,7] 2 20 (by simp [aYe,pr7]) (by decide) (by decide +kernel)
theorem Zm:Pr 1923133:=Td [3727] 2 25 (by simp [aSV]) (by decide) (by decide +kernel)
theorem aDN:Pr 430751:=Td [1723] 2 20 (by simp [aSW]) (by decide) (by decide +kernel)
theorem prR:Pr 31757755568855353:=Td [430751,4153] 2 60 (by simp [aDN,aSX]) (by decide) (by decide +kernel)
theorem prQ:Pr 74058212732561358302231226437062788676166966415465897661863160754340907:=Td [2,3,353,57467,132049,1923133,31757755568855353] 2 240 (by simp [pr2,pr3,aYc,aJZ,aDM,Zm,prR]) (by decide) (by decide +kernel)
theorem prP:Pr 57896044618658097711785492504343953926634992332820282019728792003956564819949:=Td [74058212732561358302231226437062788676166966415465897661863160754340907] 2 255 (by simp [prQ]) (by decide) (by decide +kernel)
def lR (low:Nat):Nat->Nat
 | 0=>0
 | i+1=>cond (decide (8 <= i) || Nat.beq (low / 2 ^ i%2) 1) (2 ^ i) 0+lR low i
theorem DX (a i:Nat):(a*a) ^ (2 ^ i)=a ^ (2 ^ (i+1)):=by
 rw [<-Nat.pow_two,<-jK,bM,cG]
theorem pJ {a b p:Nat} (h:a%p=b%p) (k:Nat):a ^ k%p=b ^ k%p:=by
 rw [BV,h,<-BV]
theorem pK {a b c d p:Nat} (h:a%p=b%p) (h2:c%p=d%p):a*c%p=b*d%p:=by
 rw [pU,h,h2,<-pU]
theorem aJ0 (x:Fe) (low:Nat):∀ (i:Nat) (o:Fe),fv (Bg x low i o)%aJ=fv o ^ (2 ^ i)*fv x ^ lR low i%aJ:=by
 intro i
 induction i with
 | zero=>intro o; simp only [Bg,lR,jL,Nat.pow_one,iY]
 | succ i ih=>
  intro o;rw [Bg,lR,ih];have hs:=mul_mod o o;have hm:fv (aO (aO o o) x)%aJ=fv o*fv o*fv x%aJ:=by
   rw [mul_mod (aO o o) x];exact pK hs rfl
  cases (decide (8 <= i) || Nat.beq (low / 2 ^ i%2) 1)
  ·rw [aD,aD,bS];refine pK ?_ rfl;rw [pJ hs,DX]
  ·rw [aB,aB];have e:(fv o*fv o*fv x) ^ (2 ^ i)*fv x ^ lR low i=fv o ^ (2 ^ (i+1))*fv x ^ (2 ^ i+lR low i):=by
    rw [Nat.mul_pow,DX,d9,<-dM]
   rw [<-e];exact pK (pJ hm _) rfl
theorem aSY:fv (fe 1)=1:=by decide +kernel
theorem Qc (x:Fe) (low i:Nat):fv (Bg x low i (fe 1))%aJ=fv x ^ lR low i%aJ:=by
 rw [aJ0,aSY,Nat.one_pow,pV]
theorem Qd:lR 235 255+1=aJ - 1:=by decide +kernel
theorem GG {p a e:Nat} (hp:Pr p) (ha:¬ p ∣ a) (he:e+1=p - 1):a*a ^ e%p=1:=by
 have:=Iq hp ha;rwa [<-he,bM,cG] at this
theorem inv_mul (x:Fe) (h:fv x%aJ ≠ 0):fv (aO x (Bg x 235 255 (fe 1)))%aJ=1:=by
 have hd:¬ aJ ∣ fv x:=λ hd=>h (uT hd);rw [mul_mod,pK (c:=fv (Bg x 235 255 (fe 1))) (d:=fv x ^ lR 235 255) rfl (Qc x 235 255)];exact GG prP hd Qd
theorem aDO {a b:Nat} (h:a*b%aJ=0):a%aJ=0 ∨ b%aJ=0:=by
 rcases Pr.euclid (p:=aJ) prP (Nat.dvd_of_mod_eq_zero h) with h | h
 ·exact .inl (uT h)
 ·exact .inr (uT h)
def cg (a b:Int):Prop:=∃ k:Int,a=b+57896044618658097711785492504343953926634992332820282019728792003956564819949*k
theorem cg.refl (a:Int):cg a a:=⟨0,by omega⟩
theorem cg.symm {a b:Int} (h:cg a b):cg b a:=by
 obtain ⟨k,h⟩:=h;exact ⟨-k,by omega⟩
theorem cg.trans {a b c:Int} (h:cg a b) (h2:cg b c):cg a c:=by
 obtain ⟨k,h⟩:=h;obtain ⟨l,h2⟩:=h2;exact ⟨k+l,by omega⟩
theorem cg.add {a b c d:Int} (h:cg a b) (h2:cg c d):cg (a+c) (b+d):=by
 obtain ⟨k,h⟩:=h;obtain ⟨l,h2⟩:=h2;exact ⟨k+l,by omega⟩
theorem cg.sub {a b c d:Int} (h:cg a b) (h2:cg c d):cg (a - c) (b - d):=by
 obtain ⟨k,h⟩:=h;obtain ⟨l,h2⟩:=h2;exact ⟨k - l,by omega⟩
theorem cg.neg {a b:Int} (h:cg a b):cg (-a) (-b):=by
 obtain ⟨k,h⟩:=h;exact ⟨-k,by omega⟩
theorem cg.mul {a b c d:Int} (h:cg a b) (h2:cg c d):cg (a*c) (b*d):=by
 obtain ⟨k,h⟩:=h;obtain ⟨l,h2⟩:=h2;refine ⟨b*l+k*d+57896044618658097711785492504343953926634992332820282019728792003956564819949*k*l,?_⟩;rw [h,h2];grind
theorem cg.pow {a b:Int} (h:cg a b):∀ k:Nat,cg (a ^ k) (b ^ k):=by
 intro k
 induction k with
 | zero=>rw [Int.pow_zero,Int.pow_zero]; exact cg.refl _
 | succ k ih=>rw [vF,vF]; exact ih.mul h
theorem mG {a b:Nat}:cg (a:Int) (b:Int) ↔ a%aJ=b%aJ:=by
 constructor
 ·rintro ⟨k,h⟩;simp only [aJ];omega
 ·intro h;refine ⟨((a / aJ:Nat):Int) - ((b / aJ:Nat):Int),?_⟩;have h1:=eO a aJ;have h2:=eO b aJ;simp only [aJ] at *;omega
theorem gK (x y:Fe):cg (fv (aO x y):Int) ((fv x:Int)*(fv y:Int)):=by
 have:=mG.2 (show fv (aO x y)%aJ=(fv x*fv y)%aJ from mul_mod x y);rwa [oA] at this
theorem aJ1 {x y:Fe} (hy:cN y):cg (fv (cJ x y):Int) ((fv x:Int) - (fv y:Int)):=by
 have:=mG.2 (show (fv (cJ x y)+fv y)%aJ=fv x%aJ from Nw (x:=x) hy);rw [fZ] at this;have h2:=this.sub (cg.refl (fv y:Int));rwa [Int.add_sub_cancel] at h2
theorem Wg (x:Fe) (low i:Nat):cg (fv (Bg x low i (fe 1)):Int) ((fv x:Int) ^ lR low i):=by
 have:=mG.2 (show fv (Bg x low i (fe 1))%aJ=(fv x ^ lR low i)%aJ from Qc x low i);rwa [J8] at this
theorem pL {a:Nat}:cg (a:Int) 0 ↔ a%aJ=0:=by
 have:=@mG a 0;rwa [BW] at this
theorem mU {a b:Int} (h:cg (a*b) 0):cg a 0 ∨ cg b 0:=by
 have ea:cg a ((a%57896044618658097711785492504343953926634992332820282019728792003956564819949).toNat:Int):=⟨a / 57896044618658097711785492504343953926634992332820282019728792003956564819949,by omega⟩;have eb:cg b ((b%57896044618658097711785492504343953926634992332820282019728792003956564819949).toNat:Int):=⟨b / 57896044618658097711785492504343953926634992332820282019728792003956564819949,by omega⟩;generalize (a%57896044618658097711785492504343953926634992332820282019728792003956564819949).toNat=x at *;generalize (b%57896044618658097711785492504343953926634992332820282019728792003956564819949).toNat=y at *;have hm:=((ea.mul eb).symm).trans h;rw [<-oA] at hm;rcases aDO (pL.1 hm) with h1 | h1
 ·exact .inl (ea.trans (pL.2 h1))
 ·exact .inr (eb.trans (pL.2 h1))
theorem Qe {a b:Int} (h:cg (a*a) (b*b)):cg a b ∨ cg a (-b):=by
 have h2:cg ((a - b)*(a+b)) 0:=by
  obtain ⟨k,h⟩:=h;refine ⟨k,?_⟩;have:(a - b)*(a+b)=a*a - b*b:=by grind
  rw [this,h]; omega
 rcases mU h2 with h3 | h3
 ·left;have:=h3.add (cg.refl b);rwa [Int.sub_add_cancel,Int.zero_add] at this
 ·right;have:=h3.sub (cg.refl b);rwa [Int.add_sub_cancel,Int.zero_sub] at this
theorem A6 {a:Int} (h:¬ cg a 0) (e:Nat) (he:e=aJ - 1):cg (a ^ e) 1:=by
 have ea:cg a ((a%57896044618658097711785492504343953926634992332820282019728792003956564819949).toNat:Int):=⟨a / 57896044618658097711785492504343953926634992332820282019728792003956564819949,by omega⟩;generalize (a%57896044618658097711785492504343953926634992332820282019728792003956564819949).toNat=x at *;have hx:¬ aJ ∣ x:=λ hd=>h (ea.trans (pL.2 (uT hd)));have hf:=Iq prP hx;have h1:(1:Nat)%aJ=1:=by decide
 have:=mG.2 (show x ^ (aJ - 1)%aJ=1%aJ by rw [hf,h1]);rw [J8] at this;rw [he];exact (ea.pow _).trans this
theorem Wh {a:Int} (h:¬ cg a 0) (k:Nat) (hk:k+k=aJ - 1):cg (a ^ k) 1 ∨ cg (a ^ k) (-1):=by
 have hf:=A6 h (k+k) hk;rw [Cw] at hf;have:cg (a ^ k*a ^ k) (1*1):=hf;exact Qe this
def Qf (a:Nat):Nat:=if a%2=1 then 57896044618658097711785492504343953926634992332820282019728792003956564819949 - a else a
theorem aJ2 {a b:Nat} (ha:a < 57896044618658097711785492504343953926634992332820282019728792003956564819949) (hb:b < 57896044618658097711785492504343953926634992332820282019728792003956564819949) (h:a=b ∨ a+b=0 ∨ a+b=57896044618658097711785492504343953926634992332820282019728792003956564819949):Qf a=Qf b:=by
 unfold Qf;split <;> split <;> omega
theorem aJ3 {z f:Fe} (hz:cN z) (hf:fv f=0):fv (cJ f z)%aJ=(57896044618658097711785492504343953926634992332820282019728792003956564819949 - fv z%aJ)%aJ:=by
 have h:=Nw (x:=f) hz;rw [hf,BW] at h;have h1:=eO (fv (cJ f z)+fv z) aJ;have h2:=eO (fv (cJ f z)) aJ;have h3:=eO (fv z) aJ;have l2:fv (cJ f z)%aJ < aJ:=bK _ (by decide);have l3:fv z%aJ < aJ:=bK _ (by decide);simp only [aJ] at *;omega
theorem HF {z f:Fe} (hz:cN z) (hf:fv f=0):fv (cond (Nat.beq (fv z%aJ%2) 1) (cJ f z) z)%aJ=Qf (fv z%aJ):=by
 have l3:fv z%aJ < aJ:=bK _ (by decide);cases hb:Nat.beq (fv z%aJ%2) 1
 ·have h0:¬ fv z%aJ%2=1:=λ h=>by rw [h] at hb; cases hb
  rw [aD,Qf,aW h0]
 ·have h1:=aS hb;rw [aB,aJ3 hz hf,Qf,aT h1];simp only [aJ] at *;omega
theorem aDP {z w f:Fe} (hz:cN z) (hw:cN w) (hf:fv f=0) (h:cg (fv z:Int) (fv w:Int) ∨ cg (fv z:Int) (-(fv w:Int))) :
  fv (cond (Nat.beq (fv z%aJ%2) 1) (cJ f z) z)%aJ=fv (cond (Nat.beq (fv w%aJ%2) 1) (cJ f w) w)%aJ:=by
 rw [HF hz hf,HF hw hf];have l2:fv z%aJ < aJ:=bK _ (by decide);have l3:fv w%aJ < aJ:=bK _ (by decide);refine aJ2 l2 l3 ?_;rcases h with h | h
 ·exact .inl (mG.1 h)
 ·obtain ⟨k,h⟩:=h;have h2:=eO (fv z) aJ;have h3:=eO (fv w) aJ;simp only [aJ] at *;right;have:((fv z:Int)+fv w)=57896044618658097711785492504343953926634992332820282019728792003956564819949*k:=by omega
  omega
open Go Go.Proofs
set_option linter.unusedSimpArgs false
section
variable (T0:Type) (R0:FA T0) (aG aM cB cE cR:T0->Int)
def aOO:Cg:=⟨⟨dE [(131,⟨R0,λ t=>aU [(aG t),(aM t),(cB t),(cE t),(cR t)] 5⟩)],[],dR⟩,[]⟩
theorem aSZ (fu:Nat):bB prog Tryz.f82 (aOO T0 R0 aG aM cB cE cR) fu []=(R0 [.str ([(49:UInt8),57,54,56,49,49,54,49,51,55,54,55,48,55,53,48,53,57,53,54,56,48,55,48,55,57,51,48,52,57,56,56,53,52,50,48,49,53].append [(52:UInt8),52,54,48,54,54,53,49,53,57,50,51,56,57,48,49,54,50,55,52,52,48,50,49,48,55,51,49,50,51,56,50,57,55,56,52,55,53,50])]).bind λ t=>some (aU [aG t,aM t,cB t,cE t,cR t] 5):=by kernel_rfl
end
section
variable (T0:Type) (R0:FA T0) (aG aM cB cE cR:T0->Int) (T1:Type) (R1:FA T1) (aN bI gV gW iL:T1->Int) (T2:Type) (R2:FA T2) (bC bW dW eT eX:T2->Int) (T3:Type) (R3:FA T3) (T4:Type) (R4:FA T4) (eV:T4->Bool) (T5:Type) (R5:FA T5) (fW iU qH qI qJ:T5->Int) (T6:Type) (R6:FA T6) (oH oI Ej Ek El:T6->Int)
def aOP:Cg:=⟨⟨dE [(80,⟨R0,λ t=>aU [(aG t),(aM t),(cB t),(cE t),(cR t)] 5⟩),(76,⟨R1,λ t=>aU [(aN t),(bI t),(gV t),(gW t),(iL t)] 5⟩),(128,⟨R2,λ t=>aU [(bC t),(bW t),(dW t),(eT t),(eX t)] 5⟩),(82,⟨R3,λ t=>eF iF⟩),(129,⟨R4,λ t=>AV.bool (eV t)⟩),(84,⟨R5,λ t=>aU [(fW t),(iU t),(qH t),(qI t),(qJ t)] 5⟩),(85,⟨R6,λ t=>aU [(oH t),(oI t),(Ej t),(Ek t),(El t)] 5⟩)],[],dR⟩,[]⟩
theorem aS0 (fu:Nat) (a b c d e f g h i j:Int):bB prog Tryz.f78 (aOP T0 R0 aG aM cB cE cR T1 R1 aN bI gV gW iL T2 R2 bC bW dW eT eX T3 R3 T4 R4 eV T5 R5 fW iU qH qI qJ T6 R6 oH oI Ej Ek El) fu [aU [a,b,c,d,e] 5,aU [f,g,h,i,j] 5]=(R0 [aU [f,g,h,i,j] 5]).bind λ t=>(R1 [aU [aG t,aM t,cB t,cE t,cR t] 5,aU [f,g,h,i,j] 5]).bind λ t=>(R0 [aU [aN t,bI t,gV t,gW t,iL t] 5]).bind λ dH=>(R1 [aU [aG dH,aM dH,cB dH,cE dH,cR dH] 5,aU [f,g,h,i,j] 5]).bind λ eU=>(R1 [aU [a,b,c,d,e] 5,aU [aN t,bI t,gV t,gW t,iL t] 5]).bind λ t=>(R1 [aU [a,b,c,d,e] 5,aU [aN eU,bI eU,gV eU,gW eU,iL eU] 5]).bind λ gE=>(R2 [aU [aN gE,bI gE,gV gE,gW gE,iL gE] 5]).bind λ gT=>(R1 [aU [aN t,bI t,gV t,gW t,iL t] 5,aU [bC gT,bW gT,dW gT,eT gT,eX gT] 5]).bind λ t=>(R0 [aU [aN t,bI t,gV t,gW t,iL t] 5]).bind λ gJ=>(R1 [aU [f,g,h,i,j] 5,aU [aG gJ,aM gJ,cB gJ,cE gJ,cR gJ] 5]).bind λ kA=>(R3 []).bind λ vI=>(R4 [aU [aN kA,bI kA,gV kA,gW kA,iL kA] 5,aU [a,b,c,d,e] 5]).bind λ tP=>(R5 [aU [a,b,c,d,e] 5]).bind λ tQ=>(R4 [aU [aN kA,bI kA,gV kA,gW kA,iL kA] 5,aU [fW tQ,iU tQ,qH tQ,qI tQ,qJ tQ] 5]).bind λ gX=>(R5 [aU [a,b,c,d,e] 5]).bind λ gM=>(R1 [aU [fW gM,iU gM,qH gM,qI gM,qJ gM] 5,aU [1718705420411056,234908883556509,2233514472574048,2117202627021982,765476049583133] 5]).bind λ iV=>(R4 [aU [aN kA,bI kA,gV kA,gW kA,iL kA] 5,aU [aN iV,bI iV,gV iV,gW iV,iL iV] 5]).bind λ fO=>bif eV gX || eV fO then (R1 [aU [aN t,bI t,gV t,gW t,iL t] 5,aU [1718705420411056,234908883556509,2233514472574048,2117202627021982,765476049583133] 5]).bind λ t=>(R6 [aU [aN t,bI t,gV t,gW t,iL t] 5]).bind λ t=>some (AV.tup [.s (.pl (.agg (.ints .u64 [oH t,oI t,Ej t,Ek t,El t]) 5)),.s (.pl (.bool (eV tP || eV gX)))]) else (R6 [aU [aN t,bI t,gV t,gW t,iL t] 5]).bind λ t=>some (AV.tup [.s (.pl (.agg (.ints .u64 [oH t,oI t,Ej t,Ek t,El t]) 5)),.s (.pl (.bool (eV tP || eV gX)))]):=by kernel_rfl
end
set_option maxRecDepth 4000
theorem aDQ:eF iF=AV.agg (.ints .u64 [1718705420411056,234908883556509,2233514472574048,2117202627021982,765476049583133]) 5:=by kernel_rfl
theorem wD:cN iF:=cV _
def iS:Str:=[49,57,54,56,49,49,54,49,51,55,54,55,48,55,53,48,53,57,53,54,56,48,55,48,55,57,51,48,52,57,56,56,53,52,50,48,49,53,52,52,54,48,54,54,53,49,53,57,50,51,56,57,48,49,54,50,55,52,52,48,50,49,48,55,51,49,50,51,56,50,57,55,56,52,55,53,50]
theorem aS1:(z6 iS).1%aJ=19681161376707505956807079304988542015446066515923890162744021073123829784752:=by decide +kernel
abbrev aS2:Cg:=aOO (Fe) CG (λ t=>↑t.a) (λ t=>↑t.b) (λ t=>↑t.c) (λ t=>↑t.d) (λ t=>↑t.e)
theorem aJ4:CfOk prog aS2.c:=gk <| aA HH <| aK
theorem aDR:CallOk prog 82 sFI:=by
 refine i7 aJ4 Tryz.func82 ?_;intro args t ht;unfold sFI at ht;simp only at ht;split at ht
 ·refine (aSZ ..).trans ?_;have d:=nG (s:=iS) (by decide +kernel);rw [aS1] at d;refine (dQ (λ o=>Option.bind o _) d).trans ?_;rfl
 ·cases ht
abbrev aS3:Cg:=aOP (Fe) Nz (λ t=>↑t.a) (λ t=>↑t.b) (λ t=>↑t.c) (λ t=>↑t.d) (λ t=>↑t.e) (Fe) iC (λ t=>↑t.a) (λ t=>↑t.b) (λ t=>↑t.c) (λ t=>↑t.d) (λ t=>↑t.e) (Fe) UM (λ t=>↑t.a) (λ t=>↑t.b) (λ t=>↑t.c) (λ t=>↑t.d) (λ t=>↑t.e) (Unit) rFI (Bool) aKW (λ t=>t) (Fe) JA (λ t=>↑t.a) (λ t=>↑t.b) (λ t=>↑t.c) (λ t=>↑t.d) (λ t=>↑t.e) (Fe) GJ (λ t=>↑t.a) (λ t=>↑t.b) (λ t=>↑t.c) (λ t=>↑t.d) (λ t=>↑t.e)
theorem aJ5:CfOk prog aS3.c:=gk <| aA Ch <| aA nN <| aA aFv <| aA aDR <| aA UT <| aA A8 <| aA HO <| aK
theorem HG:CallOk prog 78 Q7:=by
 refine i7 aJ5 Tryz.func78 ?_;intro args t ht;obtain ⟨u,v,rfl,hu,hv,rfl⟩:=wL (F:=mI) ht;have h2:=aL hv hv;have h3:=aL h2 hv;have h6:=aL h3 h3;have h7:=aL h6 hv;have a3:=aL hu h3;have a7:=aL hu h7;have hr0:cN (LQ (aO u (aO (aO (aO (aO v v) v) (aO (aO v v) v)) v))):=UK a7 (cV 1);have hr:cN (dO u v):=aL a3 hr0;have hrr:=aL hr hr;have hc:=aL hv hrr;have hn:cN (cJ f0 u):=cL tC;have hni:=aL hn wD;have hri:=aL hr wD;have e1:=j4 hv;have e2:=bF h2 hv;have e3:=j4 h3;have e4:=bF h6 hv;have e5:=bF hu h3;have e6:=bF hu h7;have e7:=aAc a7;have e8:iC _=some (dO u v):=bF a3 hr0;have e9:=j4 hr;have e10:=bF hv hrr;have e11:=Dt hc hu;have e12:=tD hu;have e13:=Dt hc hn;have e14:=bF hn wD;have e15:=Dt hc hni;have e16:=bF hr wD;have e17:=AL hri;have e18:=AL hr;rw [aDQ] at e14 e16;simp only [eF] at e1 e2 e3 e4 e5 e6 e7 e8 e9 e10 e11 e12 e13 e14 e15 e16 e17 e18;refine (aS0 ..).trans ?_;rw [e1,aC,e2,aC,e3,aC,e4,aC,e5,aC,e6,aC,e7,aC,e8,aC,e9,aC,e10,aC,show rFI []=some () from rfl,aC,e11,aC,e12,aC,e13,aC,aC,e14,aC,e15,aC];show _=some (Q7.enc (mI u v));rw [mI];cases (kO (aO v (aO (dO u v) (dO u v))) (cJ f0 u) || kO (aO v (aO (dO u v) (dO u v))) (aO (cJ f0 u) iF))
 ·rw [aD,e18,aC]; rfl
 ·rw [aB,e16,aC,e17,aC]; rfl
theorem It {u v:Fe} (h:cN u) (h2:cN v):LS [eF u,eF v]=some (mI u v):=by
 simp only [LS,Q7];exact FD mI h h2
theorem DY {x y:Fe}:kO x y=true ↔ cg (fv x:Int) (fv y:Int):=by
 rw [mG,kO];constructor
 ·intro h; exact aS h
 ·intro h; rw [h]; exact lB _
theorem NL:fv f0=0:=by decide
theorem aS4 {x:Fe} (hx:cN x):cg (fv (cJ f0 x):Int) (-(fv x:Int)):=by
 have:=aJ1 (x:=f0) hx;rwa [NL,show ((0:Nat):Int) - (fv x:Int)=-(fv x:Int) by omega] at this
end
end Go.Eng
