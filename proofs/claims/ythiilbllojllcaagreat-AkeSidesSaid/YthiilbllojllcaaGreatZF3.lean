import Derived.Test.YthiilbllojllcaaGreatZF2
namespace Go.Eng
noncomputable section
set_option linter.unusedVariables false
def Pr (p:Nat):Prop:=2 <= p /\ ∀ d,d ∣ p->d=1 ∨ d=p
theorem Pr.cop {p a:Nat} (hp:Pr p) (h:¬ p ∣ a):Nat.Coprime p a:=by
 rcases hp.2 (Nat.gcd p a) (Nat.gcd_dvd_left p a) with h1 | h1
 ·exact h1
 ·exact absurd (h1 ▸ Nat.gcd_dvd_right p a) h
theorem Pr.euclid {p a b:Nat} (hp:Pr p) (h:p ∣ a*b):p ∣ a ∨ p ∣ b:=by
 by_cases ha:p ∣ a
 ·exact .inl ha
 ·exact .inr ((hp.cop ha).dvd_of_dvd_mul_left h)
def lW:List Nat->Nat
 | []=>1
 | x :: r=>x*lW r
theorem Xb {l m:List Nat} (h:l.Perm m):lW l=lW m:=by
 induction h with
 | nil=>rfl
 | cons x _ ih=>simp only [lW,ih]
 | swap x y l=>simp only [lW]; rw [<-dU,bV y x,dU]
 | trans _ _ h1 h2=>exact h1.trans h2
theorem aIi:∀ {l m:List Nat},l.Nodup->(∀ x ∈ l,x ∈ m)->l.length=m.length->l.Perm m:=by
 intro l
 induction l with
 | nil=>intro m _ _ h; cases m with
  | nil=>exact .nil
  | cons _ _=>cases h
 | cons x l ih=>
  intro m hn hs hl;have hx:=hs x (by simp);have hp:=List.perm_cons_erase hx;obtain ⟨h1,h2⟩:=List.nodup_cons.1 hn;refine List.Perm.trans (List.Perm.cons x (ih h2 (λ y hy=>?_) ?_)) hp.symm
  ·have hm:=hs y (by simp [hy]);have hne:y ≠ x:=λ e=>h1 (e ▸ hy);exact (List.mem_erase_of_ne hne).2 hm
  ·have:=hp.length_eq;simp only [fY] at this hl;omega
theorem aEk (a p:Nat):∀ l:List Nat,lW (l.map λ i=>a*i%p)%p=a ^ l.length*lW l%p:=by
 intro l
 induction l with
 | nil=>rfl
 | cons x l ih=>
  simp only [mR,lW,fY];rw [lI,ih,mY,<-lI,bM];congr 1;rw [bV (a ^ l.length) a,dU,dU,HA x]
theorem Pr.cop_prod {p:Nat} (hp:Pr p):∀ l:List Nat,(∀ x ∈ l,¬ p ∣ x)->¬ p ∣ lW l:=by
 intro l
 induction l with
 | nil=>
  intro _ h;have:=sQ (by decide) h;have:=hp.1;simp only [lW] at *;omega
 | cons x l ih=>
  intro hx h;rcases hp.euclid h with h | h
  ·exact hx x (by simp) h
  ·exact ih (λ y hy=>hx y (by simp [hy])) h
theorem yK {p i:Nat} (h1:0 < i) (h2:i < p):¬ p ∣ i:=λ h=>by
 have:=sQ h1 h;omega
theorem Dt {p x y:Nat} (h:x%p=y%p) (hle:y <= x):p ∣ x - y:=by
 have h1:=eI x p;have h2:=eI y p;have hd:y / p <= x / p:=Nat.div_le_div_right hle;refine ⟨x / p - y / p,?_⟩;rw [Nat.mul_sub];have:=At p hd;omega
theorem Kp {p a:Nat} (hp:Pr p) (ha:¬ p ∣ a):a ^ (p - 1)%p=1:=by
 have h2:=hp.1;let L:=(List.range (p - 1)).map (·+1);have hL:∀ x,x ∈ L ↔ 0 < x /\ x < p:=by
  intro x;simp only [L,lU,List.mem_range];constructor
  ·rintro ⟨y,h,rfl⟩; omega
  ·intro h; exact ⟨x - 1,by omega,by omega⟩
 have hLn:L.Nodup:=by
  simp only [L,List.Nodup,List.pairwise_map];exact (List.nodup_range (n:=p - 1)).imp λ h e=>h (by omega)
 have hLl:L.length=p - 1:=by simp [L]
 have ne:∀ i j,0 < i->i < p->0 < j->j < p->i < j->a*i%p ≠ a*j%p:=by
  intro i j _ _ _ hj hij e;have hle:a*i <= a*j:=At a (by omega);have hd:=Dt e.symm hle;rw [<-Nat.mul_sub] at hd;rcases hp.euclid hd with h | h
  ·exact ha h
  ·exact yK (by omega) (by omega) h
 have hM:(L.map λ i=>a*i%p).Perm L:=by
  refine aIi ?_ ?_ (by rw [eZ])
  ·simp only [List.Nodup,List.pairwise_map];refine List.Pairwise.imp_of_mem ?_ hLn;intro i j hi hj hij;have hi:=(hL i).1 hi;have hj:=(hL j).1 hj;rcases Nat.lt_or_gt_of_ne hij with h | h
   ·exact ne i j hi.1 hi.2 hj.1 hj.2 h
   ·exact (ne j i hj.1 hj.2 hi.1 hi.2 h).symm
  ·intro x hx;obtain ⟨i,hi,rfl⟩:=lU.1 hx;have hi:=(hL i).1 hi;refine (hL _).2 ⟨KO λ e=>?_,bH _ (by omega)⟩;rcases hp.euclid (Nat.dvd_of_mod_eq_zero e) with h | h
   ·exact ha h
   ·exact yK hi.1 hi.2 h
 have e:=aEk a p L;rw [Xb hM,hLl] at e;have hP:¬ p ∣ lW L:=hp.cop_prod L λ x hx=>yK ((hL x).1 hx).1 ((hL x).1 hx).2;have hpos:0 < a ^ (p - 1):=jF (KO λ e=>ha (e ▸ Nat.dvd_zero p));have hd:=Dt e.symm (Nat.le_mul_of_pos_left _ hpos);have hd2:p ∣ (a ^ (p - 1) - 1)*lW L:=by rw [Nat.sub_mul,mZ]; exact hd
 rcases hp.euclid hd2 with h | h
 ·obtain ⟨k,hk⟩:=h;have:a ^ (p - 1)=1+p*k:=by omega
  rw [this,DO,aY (by omega)]
 ·exact absurd h hP
theorem N5:∀ n,2 <= n->∃ q,Pr q /\ q ∣ n:=by
 intro n
 induction n using Nat.strongRecOn with
 | _ n ih=>
  intro hn;by_cases h:∃ d,d ∣ n /\ d ≠ 1 /\ d ≠ n
  ·obtain ⟨d,h1,h2,h3⟩:=h;have hp:0 < d:=Nat.pos_of_dvd_of_pos h1 (by omega);have hle:=sQ (by omega) h1;obtain ⟨q,g1,g2⟩:=ih d (by omega) (by omega);exact ⟨q,g1,sP g2 h1⟩
  ·refine ⟨n,⟨hn,λ d hd=>?_⟩,KK n⟩;by_cases h1:d=1
   ·exact .inl h1
   ·by_cases h2:d=n
    ·exact .inr h2
    ·exact absurd ⟨d,hd,h1,h2⟩ h
theorem Kq {n:Nat} (hn:2 <= n) (h:∀ q,Pr q->q ∣ n->n < q*q):Pr n:=by
 refine ⟨hn,λ d hd=>?_⟩;by_cases h1:d=1
 ·exact .inl h1
 by_cases h2:d=n
 ·exact .inr h2
 exfalso;obtain ⟨e,he⟩:=hd;have hd0:0 < d:=KO λ h0=>by rw [h0,HB] at he; omega
 have he0:0 < e:=KO λ h0=>by rw [h0,u9] at he; omega
 have he1:e ≠ 1:=λ h0=>by rw [h0,gY] at he; omega
 obtain ⟨q,q1,q2⟩:=N5 d (by omega);obtain ⟨r,r1,r2⟩:=N5 e (by omega);have a1:=h q q1 (sP q2 ⟨e,he⟩);have a2:=h r r1 (sP r2 ⟨d,by rw [he,bV]⟩);have b1:=sQ hd0 q2;have b2:=sQ he0 r2;rcases Nat.le_total d e with hde | hde
 ·have:q*q <= d*e:=jT b1 (dC b1 hde);omega
 ·have:r*r <= d*e:=jT (dC b2 hde) b2;omega
theorem IQ {a r k:Nat} (h:a ^ k%r=1%r) (m:Nat):a ^ (k*m)%r=1%r:=by
 rw [lJ,DQ,h,<-DQ,Nat.one_pow]
theorem aQj {a r:Nat} (hr:1 < r) (hc:Nat.Coprime r a):∀ (m n:Nat),a ^ m%r=1->a ^ n%r=1->a ^ Nat.gcd m n%r=1:=by
 intro m
 induction m using Nat.strongRecOn with
 | _ m ih=>
  intro n hm hn;rcases G8 m with rfl | h0
  ·rw [Nat.gcd_zero_left]; exact hn
  ·rw [Nat.gcd_rec];refine ih (n%m) (bH _ h0) m ?_ hm;have e:a ^ n=a ^ (m*(n / m))*a ^ (n%m):=by rw [<-dV,eI]
   have h1:a ^ (m*(n / m))%r=1:=by
    have:=IQ (a:=a) (r:=r) (k:=m) (by rw [hm,aY hr]) (n / m);rwa [aY hr] at this
   rw [e,lI,h1,mZ,mY] at hn;exact hn
theorem Ts {n F R:Nat} (hn:2 <= n) (hF:n - 1=F*R) (hroot:n < (F+1)*(F+1)) (hq:∀ q e,Pr q->q ^ (e+1) ∣ F->∃ a,a ^ (n - 1)%n=1 /\ Nat.Coprime (a ^ ((n - 1) / q) - 1) n /\ 0 < a) (hpp:∀ d,(∀ q e,Pr q->q ^ (e+1) ∣ F->q ^ (e+1) ∣ d)->F ∣ d):Pr n:=by
 refine Kq hn λ r hr hrn=>?_;have hr1:=hr.1;have key:F ∣ r - 1:=by
  refine hpp (r - 1) λ q e hqp hqe=>?_;obtain ⟨a,h1,h2,h3⟩:=hq q e hqp hqe;have hmod:a ^ (n - 1)%r=1:=by
   have:a ^ (n - 1)%r=a ^ (n - 1)%n%r:=(Nat.mod_mod_of_dvd _ hrn).symm;rw [this,h1,aY (by omega)]
  have hra:¬ r ∣ a:=λ hd=>by
   have:r ∣ a ^ (n - 1):=by
    obtain ⟨k,hk⟩:∃ k,n - 1=k+1:=⟨n - 2,by omega⟩;rw [hk,bM];exact sP hd (Nat.dvd_mul_left a _)
   have:=yB this;omega
  have hf:=Kp hr hra;have hg:=aQj (by omega) (hr.cop hra) (n - 1) (r - 1) hmod hf
  -- the gcd holds all of q^(e+1),else (n-1)/q is a multiple of it
  have hqn:q ^ (e+1) ∣ n - 1:=sP hqe ⟨R,hF⟩;by_cases hd:q ^ (e+1) ∣ Nat.gcd (n - 1) (r - 1)
  ·exact sP hd (Nat.gcd_dvd_right _ _)
  ·exfalso;obtain ⟨k,hk⟩:=Nat.gcd_dvd_left (n - 1) (r - 1);have hq2:=hqp.1;have hqk:q ∣ k:=by
    by_cases hqk:q ∣ k
    ·exact hqk
    ·exact absurd (((hqp.cop hqk).pow_left (e+1)).dvd_of_dvd_mul_right (hk ▸ hqn)) hd
   obtain ⟨m,rfl⟩:=hqk;have hdiv:(n - 1) / q=Nat.gcd (n - 1) (r - 1)*m:=by
    conv=>lhs; rw [hk]
    rw [HA,Nat.mul_div_cancel_left _ (by omega)]
   have h4:a ^ ((n - 1) / q)%r=1:=by
    rw [hdiv];have:=IQ (a:=a) (r:=r) (k:=Nat.gcd (n - 1) (r - 1)) (by rw [hg,aY (by omega)]) m;rwa [aY (by omega:1 < r)] at this
   have h5:r ∣ a ^ ((n - 1) / q) - 1:=by
    have h6:=eI (a ^ ((n - 1) / q)) r;rw [h4] at h6;exact ⟨a ^ ((n - 1) / q) / r,by omega⟩
   have h7:=Nat.dvd_gcd h5 hrn;rw [h2] at h7;have:=sQ (by decide) h7;omega
 have hle:F <= r - 1:=sQ (by omega) key
 calc n < (F+1)*(F+1):=hroot
  _ <= r*r:=jT (by omega) (by omega)
def pm (a n:Nat):Nat->Nat->Nat
 | 0,_=>1%n
 | f+1,e=>cond (Nat.beq (e%2) 1) (pm a n f (e / 2) ^ 2%n*a%n) (pm a n f (e / 2) ^ 2%n)
theorem N6 (a n:Nat):∀ (f e:Nat),e < 2 ^ f->pm a n f e=a ^ e%n:=by
 intro f
 induction f with
 | zero => intro e h; have : e = 0 := by simpa using h
           subst this; rfl
 | succ f ih=>
  intro e h;have h2:e / 2 < 2 ^ f:=by rw [bM] at h; omega
  have hd:=eI e 2;have hsq:(a ^ (e / 2)%n) ^ 2%n=a ^ (2*(e / 2))%n:=by
   rw [<-DQ,<-lJ,bV]
  rw [pm,ih _ h2,hsq];cases hb:Nat.beq (e%2) 1
  ·have h0:e%2=0:=by
    have:¬ e%2=1:=λ h=>by rw [h] at hb; cases hb
    omega
   rw [aE];rw [h0,fP] at hd;rw [hd]
  ·have h1:=aT hb;rw [aB,Nat.mod_mul_mod,<-bM];rw [h1] at hd;exact dW (λ k=>a ^ k%n) hd
theorem Kr:∀ {l:List Nat} {q:Nat},(∀ x ∈ l,Pr x)->Pr q->q ∣ lW l->q ∈ l:=by
 intro l
 induction l with
 | nil=>
  intro q _ hq h;have:=sQ (by decide) h;have:=hq.1;simp only [lW] at *;omega
 | cons x l ih=>
  intro q hl hq h;rcases hq.euclid h with h | h
  ·rcases (hl x (by simp)).2 q h with h1 | h1
   ·have:=hq.1; omega
   ·simp [h1]
  ·exact Cj _ (ih (λ y hy=>hl y (by simp [hy])) hq h)
theorem aIj:∀ {l:List Nat} {d:Nat},(∀ x ∈ l,Pr x)->l.Nodup->(∀ x ∈ l,x ∣ d)->lW l ∣ d:=by
 intro l
 induction l with
 | nil=>intro d _ _ _; exact Nat.one_dvd d
 | cons x l ih=>
  intro d hl hn hd;obtain ⟨h1,h2⟩:=List.nodup_cons.1 hn;have hx:=hl x (by simp);have hc:Nat.Coprime x (lW l):=hx.cop λ h=>h1 (Kr (λ y hy=>hl y (by simp [hy])) hx h);exact hc.mul_dvd_of_dvd_of_dvd (hd x (by simp)) (ih (λ y hy=>hl y (by simp [hy])) h2 λ y hy=>hd y (by simp [hy]))
def aWB (n:Nat) (qs:List Nat) (a f:Nat):Bool :=
 Nat.ble 2 n && Nat.beq ((n - 1)%lW qs) 0 && Nat.blt n ((lW qs+1)*(lW qs+1)) && Nat.blt 0 a && Nat.blt (n - 1) (2 ^ f) && Nat.beq (pm a n f (n - 1)) 1 && qs.all λ q=>Nat.ble 1 (pm a n f ((n - 1) / q)) && Nat.beq (Nat.gcd (pm a n f ((n - 1) / q) - 1) n) 1
theorem aQk {x n:Nat} (h:Nat.gcd (x%n - 1) n=1) (h1:1 <= x%n):Nat.Coprime (x - 1) n:=by
 have hx:=eI x n;have e:x - 1=(x%n - 1)+n*(x / n):=by omega
 unfold Nat.Coprime;rw [e,Nat.gcd_add_mul_left_left];exact h
theorem EH {n:Nat} (qs:List Nat) (a f:Nat) (hq:∀ q ∈ qs,Pr q) (hnd:qs.Nodup) (h:aWB n qs a f=true):Pr n:=by
 simp only [aWB,aW] at h;obtain ⟨⟨⟨⟨⟨⟨h1,h2⟩,h3⟩,h4⟩,h5⟩,h6⟩,h7⟩:=h;have h1:=dA h1;have h2:=aT h2;have h3:=cY.mp h3;have h4:=cY.mp h4;have h5:=cY.mp h5;have h6:=aT h6;rw [N6 a n f _ h5] at h6;have hF:n - 1=lW qs*((n - 1) / lW qs):=by
  have:=eI (n - 1) (lW qs);omega
 refine Ts h1 hF h3 (λ q e hqp hqe=>?_) (λ d hd=>?_)
 ·have hm:=Kr hq hqp (sP (by rw [bM]; exact Nat.dvd_mul_left q _) hqe);have h8:=uC.1 h7 q hm;rw [aW] at h8;have hlt:(n - 1) / q < 2 ^ f:=jS (sO ..) h5;rw [N6 a n f _ hlt] at h8;exact ⟨a,h6,aQk (aT h8.2) (dA h8.1),h4⟩
 ·refine aIj hq hnd λ x hx=>?_;have hp:=hq x hx;have:x ∣ lW qs:=by
   have key:∀ l:List Nat,x ∈ l->x ∣ lW l:=by
    intro l
    induction l with
    | nil=>intro h; cases h
    | cons y l ih=>
     intro h;rcases rQ.1 h with rfl | h
     ·exact Nat.dvd_mul_right _ _
     ·exact sP (ih h) (Nat.dvd_mul_left _ _)
   exact key qs hx
  have:=hd x 0 hp (by simpa using this);simpa using this
def aIk (n:Nat):Bool:=Nat.ble 2 n && (List.range n).all λ d=>Nat.ble d 1 || !(Nat.beq (n%d) 0)
theorem BU {n:Nat} (h:aIk n=true):Pr n:=by
 simp only [aIk,aW] at h;have h1:=dA h.1;refine ⟨h1,λ d hd=>?_⟩;by_cases e:d=n
 ·exact .inr e
 left;have hle:=sQ (by omega) hd;have hp:=Nat.pos_of_dvd_of_pos hd (by omega);have:=uC.1 h.2 d (List.mem_range.2 (by omega));rw [M8] at this;rcases this with h2 | h2
 ·have:=dA h2; omega
 ·rw [yB hd] at h2; cases h2
theorem pr2:Pr 2:=BU (by decide +kernel)
theorem pr3:Pr 3:=BU (by decide +kernel)
theorem bGL:Pr 353:=BU (by decide +kernel)
theorem bGM:Pr 487:=BU (by decide +kernel)
theorem bGN:Pr 131:=BU (by decide +kernel)
theorem pr7:Pr 7:=BU (by decide +kernel)
theorem bBe:Pr 3727:=BU (by decide +kernel)
theorem bBf:Pr 1723:=BU (by decide +kernel)
theorem bBg:Pr 4153:=BU (by decide +kernel)
theorem aQl:Pr 57467:=EH [487] 2 20 (by simp [bGM]) (by decide) (by decide +kernel)
theorem aIl:Pr 132049:=EH [131,7] 2 20 (by simp [bGN,pr7]) (by decide) (by decide +kernel)
theorem aEl:Pr 1923133:=EH [3727] 2 25 (by simp [bBe]) (by decide) (by decide +kernel)
theorem aIm:Pr 430751:=EH [1723] 2 20 (by simp [bBf]) (by decide) (by decide +kernel)
theorem prR:Pr 31757755568855353:=EH [430751,4153] 2 60 (by simp [aIm,bBg]) (by decide) (by decide +kernel)
theorem prQ:Pr 74058212732561358302231226437062788676166966415465897661863160754340907:=EH [2,3,353,57467,132049,1923133,31757755568855353] 2 240 (by simp [pr2,pr3,bGL,aQl,aIl,aEl,prR]) (by decide) (by decide +kernel)
theorem prP:Pr 57896044618658097711785492504343953926634992332820282019728792003956564819949:=EH [74058212732561358302231226437062788676166966415465897661863160754340907] 2 255 (by simp [prQ]) (by decide) (by decide +kernel)
def nU (low:Nat):Nat->Nat
 | 0=>0
 | i+1=>cond (decide (8 <= i) || Nat.beq (low / 2 ^ i%2) 1) (2 ^ i) 0+nU low i
theorem FX (a i:Nat):(a*a) ^ (2 ^ i)=a ^ (2 ^ (i+1)):=by
 rw [<-Nat.pow_two,<-lJ,bM,bV]
theorem lO {a b p:Nat} (h:a%p=b%p) (k:Nat):a ^ k%p=b ^ k%p:=by
 rw [DQ,h,<-DQ]
theorem rW {a b c d p:Nat} (h:a%p=b%p) (h2:c%p=d%p):a*c%p=b*d%p:=by
 rw [lI,h,h2,<-lI]
theorem aQm (x:Fe) (low:Nat):∀ (i:Nat) (o:Fe),fv (DY x low i o)%aK=fv o ^ (2 ^ i)*fv x ^ nU low i%aK:=by
 intro i
 induction i with
 | zero=>intro o; simp only [DY,nU,iY,Nat.pow_one,gY]
 | succ i ih=>
  intro o;rw [DY,nU,ih];have hs:=mul_mod o o;have hm:fv (aN (aN o o) x)%aK=fv o*fv o*fv x%aK:=by
   rw [mul_mod (aN o o) x];exact rW hs rfl
  cases (decide (8 <= i) || Nat.beq (low / 2 ^ i%2) 1)
  ·rw [aE,aE,bT];refine rW ?_ rfl;rw [lO hs,FX]
  ·rw [aB,aB];have e:(fv o*fv o*fv x) ^ (2 ^ i)*fv x ^ nU low i=fv o ^ (2 ^ (i+1))*fv x ^ (2 ^ i+nU low i):=by
    rw [Nat.mul_pow,FX,dU,<-dV]
   rw [<-e];exact rW (lO hm _) rfl
theorem bBi:fv (fe 1)=1:=by decide +kernel
theorem Tt (x:Fe) (low i:Nat):fv (DY x low i (fe 1))%aK=fv x ^ nU low i%aK:=by
 rw [aQm,bBi,Nat.one_pow,mZ]
theorem Tu:nU 235 255+1=aK - 1:=by decide +kernel
theorem BV {p a e:Nat} (hp:Pr p) (ha:¬ p ∣ a) (he:e+1=p - 1):a*a ^ e%p=1:=by
 have:=Kp hp ha;rwa [<-he,bM,bV] at this
theorem inv_mul (x:Fe) (h:fv x%aK ≠ 0):fv (aN x (DY x 235 255 (fe 1)))%aK=1:=by
 have hd:¬ aK ∣ fv x:=λ hd=>h (yB hd);rw [mul_mod,rW (c:=fv (DY x 235 255 (fe 1))) (d:=fv x ^ nU 235 255) rfl (Tt x 235 255)];exact BV prP hd Tu
theorem aIn {a b:Nat} (h:a*b%aK=0):a%aK=0 ∨ b%aK=0:=by
 rcases Pr.euclid (p:=aK) prP (Nat.dvd_of_mod_eq_zero h) with h | h
 ·exact .inl (yB h)
 ·exact .inr (yB h)
def cg (a b:Int):Prop:=∃ k:Int,a=b+57896044618658097711785492504343953926634992332820282019728792003956564819949*k
theorem cg.refl (a:Int):cg a a:=⟨0,by omega⟩
theorem cg.symm {a b:Int} (h:cg a b):cg b a:=by
 obtain ⟨k,h⟩:=h;exact ⟨-k,by omega⟩
theorem cg.trans {a b c:Int} (h:cg a b) (h2:cg b c):cg a c:=by
 obtain ⟨k,h⟩:=h;obtain ⟨l,h2⟩:=h2;exact ⟨k+l,by omega⟩
theorem cg.add {a b c d:Int} (h:cg a b) (h2:cg c d):cg (a+c) (b+d):=by
 obtain ⟨k,h⟩:=h;obtain ⟨l,h2⟩:=h2;exact ⟨k+l,by omega⟩
theorem cg.sub {a b c d:Int} (h:cg a b) (h2:cg c d):cg (a - c) (b - d):=by
 obtain ⟨k,h⟩:=h;obtain ⟨l,h2⟩:=h2;exact ⟨k - l,by omega⟩
theorem cg.neg {a b:Int} (h:cg a b):cg (-a) (-b):=by
 obtain ⟨k,h⟩:=h;exact ⟨-k,by omega⟩
theorem cg.mul {a b c d:Int} (h:cg a b) (h2:cg c d):cg (a*c) (b*d):=by
 obtain ⟨k,h⟩:=h;obtain ⟨l,h2⟩:=h2;refine ⟨b*l+k*d+57896044618658097711785492504343953926634992332820282019728792003956564819949*k*l,?_⟩;rw [h,h2];grind
theorem cg.pow {a b:Int} (h:cg a b):∀ k:Nat,cg (a ^ k) (b ^ k):=by
 intro k
 induction k with
 | zero=>rw [Int.pow_zero,Int.pow_zero]; exact cg.refl _
 | succ k ih=>rw [yQ,yQ]; exact ih.mul h
theorem oP {a b:Nat}:cg (a:Int) (b:Int) ↔ a%aK=b%aK:=by
 constructor
 ·rintro ⟨k,h⟩;simp only [aK];omega
 ·intro h;refine ⟨((a / aK:Nat):Int) - ((b / aK:Nat):Int),?_⟩;have h1:=eI a aK;have h2:=eI b aK;simp only [aK] at *;omega
theorem iU (x y:Fe):cg (fv (aN x y):Int) ((fv x:Int)*(fv y:Int)):=by
 have:=oP.2 (show fv (aN x y)%aK=(fv x*fv y)%aK from mul_mod x y);rwa [qG] at this
theorem aQn {x y:Fe} (hy:cS y):cg (fv (cQ x y):Int) ((fv x:Int) - (fv y:Int)):=by
 have:=oP.2 (show (fv (cQ x y)+fv y)%aK=fv x%aK from Pm (x:=x) hy);rw [iE] at this;have h2:=this.sub (cg.refl (fv y:Int));rwa [Int.add_sub_cancel] at h2
theorem aAH (x:Fe) (low i:Nat):cg (fv (DY x low i (fe 1)):Int) ((fv x:Int) ^ nU low i):=by
 have:=oP.2 (show fv (DY x low i (fe 1))%aK=(fv x ^ nU low i)%aK from Tt x low i);rwa [M9] at this
theorem rX {a:Nat}:cg (a:Int) 0 ↔ a%aK=0:=by
 have:=@oP a 0;rwa [DS] at this
theorem pA {a b:Int} (h:cg (a*b) 0):cg a 0 ∨ cg b 0:=by
 have ea:cg a ((a%57896044618658097711785492504343953926634992332820282019728792003956564819949).toNat:Int):=⟨a / 57896044618658097711785492504343953926634992332820282019728792003956564819949,by omega⟩;have eb:cg b ((b%57896044618658097711785492504343953926634992332820282019728792003956564819949).toNat:Int):=⟨b / 57896044618658097711785492504343953926634992332820282019728792003956564819949,by omega⟩;generalize (a%57896044618658097711785492504343953926634992332820282019728792003956564819949).toNat=x at *;generalize (b%57896044618658097711785492504343953926634992332820282019728792003956564819949).toNat=y at *;have hm:=((ea.mul eb).symm).trans h;rw [<-qG] at hm;rcases aIn (rX.1 hm) with h1 | h1
 ·exact .inl (ea.trans (rX.2 h1))
 ·exact .inr (eb.trans (rX.2 h1))
theorem Tv {a b:Int} (h:cg (a*a) (b*b)):cg a b ∨ cg a (-b):=by
 have h2:cg ((a - b)*(a+b)) 0:=by
  obtain ⟨k,h⟩:=h;refine ⟨k,?_⟩;have:(a - b)*(a+b)=a*a - b*b:=by grind
  rw [this,h]; omega
 rcases pA h2 with h3 | h3
 ·left;have:=h3.add (cg.refl b);rwa [Int.sub_add_cancel,Int.zero_add] at this
 ·right;have:=h3.sub (cg.refl b);rwa [Int.add_sub_cancel,Int.zero_sub] at this
theorem Ct {a:Int} (h:¬ cg a 0) (e:Nat) (he:e=aK - 1):cg (a ^ e) 1:=by
 have ea:cg a ((a%57896044618658097711785492504343953926634992332820282019728792003956564819949).toNat:Int):=⟨a / 57896044618658097711785492504343953926634992332820282019728792003956564819949,by omega⟩;generalize (a%57896044618658097711785492504343953926634992332820282019728792003956564819949).toNat=x at *;have hx:¬ aK ∣ x:=λ hd=>h (ea.trans (rX.2 (yB hd)));have hf:=Kp prP hx;have h1:(1:Nat)%aK=1:=by decide
 have:=oP.2 (show x ^ (aK - 1)%aK=1%aK by rw [hf,h1]);rw [M9] at this;rw [he];exact (ea.pow _).trans this
theorem aAI {a:Int} (h:¬ cg a 0) (k:Nat) (hk:k+k=aK - 1):cg (a ^ k) 1 ∨ cg (a ^ k) (-1):=by
 have hf:=Ct h (k+k) hk;rw [Et] at hf;have:cg (a ^ k*a ^ k) (1*1):=hf;exact Tv this
def Tw (a:Nat):Nat:=if a%2=1 then 57896044618658097711785492504343953926634992332820282019728792003956564819949 - a else a
theorem aQo {a b:Nat} (ha:a < 57896044618658097711785492504343953926634992332820282019728792003956564819949) (hb:b < 57896044618658097711785492504343953926634992332820282019728792003956564819949) (h:a=b ∨ a+b=0 ∨ a+b=57896044618658097711785492504343953926634992332820282019728792003956564819949):Tw a=Tw b:=by
 unfold Tw;split <;> split <;> omega
theorem aQp {z f:Fe} (hz:cS z) (hf:fv f=0):fv (cQ f z)%aK=(57896044618658097711785492504343953926634992332820282019728792003956564819949 - fv z%aK)%aK:=by
 have h:=Pm (x:=f) hz;rw [hf,DS] at h;have h1:=eI (fv (cQ f z)+fv z) aK;have h2:=eI (fv (cQ f z)) aK;have h3:=eI (fv z) aK;have l2:fv (cQ f z)%aK < aK:=bH _ (by decide);have l3:fv z%aK < aK:=bH _ (by decide);simp only [aK] at *;omega
theorem JT {z f:Fe} (hz:cS z) (hf:fv f=0):fv (cond (Nat.beq (fv z%aK%2) 1) (cQ f z) z)%aK=Tw (fv z%aK):=by
 have l3:fv z%aK < aK:=bH _ (by decide);cases hb:Nat.beq (fv z%aK%2) 1
 ·have h0:¬ fv z%aK%2=1:=λ h=>by rw [h] at hb; cases hb
  rw [aE,Tw,aV h0]
 ·have h1:=aT hb;rw [aB,aQp hz hf,Tw,aX h1];simp only [aK] at *;omega
theorem aIo {z w f:Fe} (hz:cS z) (hw:cS w) (hf:fv f=0) (h:cg (fv z:Int) (fv w:Int) ∨ cg (fv z:Int) (-(fv w:Int))) :
  fv (cond (Nat.beq (fv z%aK%2) 1) (cQ f z) z)%aK=fv (cond (Nat.beq (fv w%aK%2) 1) (cQ f w) w)%aK:=by
 rw [JT hz hf,JT hw hf];have l2:fv z%aK < aK:=bH _ (by decide);have l3:fv w%aK < aK:=bH _ (by decide);refine aQo l2 l3 ?_;rcases h with h | h
 ·exact .inl (oP.1 h)
 ·obtain ⟨k,h⟩:=h;have h2:=eI (fv z) aK;have h3:=eI (fv w) aK;simp only [aK] at *;right;have:((fv z:Int)+fv w)=57896044618658097711785492504343953926634992332820282019728792003956564819949*k:=by omega
  omega
open Go Go.Proofs
set_option linter.unusedSimpArgs false
section
variable (T0:Type) (R0:FA T0) (aG aO cE cI cP:T0->Int)
def aWC:Cg:=⟨⟨cV [(77,⟨R0,λ t=>aU [(aG t),(aO t),(cE t),(cI t),(cP t)] 5⟩)],[],cX⟩,[]⟩
theorem bBj (fu:Nat):aS prog Tryz.f35 (aWC T0 R0 aG aO cE cI cP) fu []=(R0 [.str ([(49:UInt8),57,54,56,49,49,54,49,51,55,54,55,48,55,53,48,53,57,53,54,56,48,55,48,55,57,51,48,52,57,56,56,53,52,50,48,49,53].append [(52:UInt8),52,54,48,54,54,53,49,53,57,50,51,56,57,48,49,54,50,55,52,52,48,50,49,48,55,51,49,50,51,56,50,57,55,56,52,55,53,50])]).bind λ t=>some (aU [aG t,aO t,cE t,cI t,cP t] 5):=by kernel_rfl
end
section
variable (T0:Type) (R0:FA T0) (aG aO cE cI cP:T0->Int) (T1:Type) (R1:FA T1) (aM bK iH iI iP:T1->Int) (T2:Type) (R2:FA T2) (bE bU fD fJ fM:T2->Int) (T3:Type) (R3:FA T3) (T4:Type) (R4:FA T4) (dG:T4->Bool) (T5:Type) (R5:FA T5) (fE jG rR tF tG:T5->Int) (T6:Type) (R6:FA T6) (mF nP DU DV DW:T6->Int)
def aWD:Cg:=⟨⟨cV [(33,⟨R0,λ t=>aU [(aG t),(aO t),(cE t),(cI t),(cP t)] 5⟩),(29,⟨R1,λ t=>aU [(aM t),(bK t),(iH t),(iI t),(iP t)] 5⟩),(74,⟨R2,λ t=>aU [(bE t),(bU t),(fD t),(fJ t),(fM t)] 5⟩),(35,⟨R3,λ t=>eF iF⟩),(75,⟨R4,λ t=>AV.bool (dG t)⟩),(37,⟨R5,λ t=>aU [(fE t),(jG t),(rR t),(tF t),(tG t)] 5⟩),(38,⟨R6,λ t=>aU [(mF t),(nP t),(DU t),(DV t),(DW t)] 5⟩)],[],cX⟩,[]⟩
theorem bBk (fu:Nat) (a b c d e f g h i j:Int):aS prog Tryz.f31 (aWD T0 R0 aG aO cE cI cP T1 R1 aM bK iH iI iP T2 R2 bE bU fD fJ fM T3 R3 T4 R4 dG T5 R5 fE jG rR tF tG T6 R6 mF nP DU DV DW) fu [aU [a,b,c,d,e] 5,aU [f,g,h,i,j] 5]=(R0 [aU [f,g,h,i,j] 5]).bind λ t=>(R1 [aU [aG t,aO t,cE t,cI t,cP t] 5,aU [f,g,h,i,j] 5]).bind λ t=>(R0 [aU [aM t,bK t,iH t,iI t,iP t] 5]).bind λ bY=>(R1 [aU [aG bY,aO bY,cE bY,cI bY,cP bY] 5,aU [f,g,h,i,j] 5]).bind λ cJ=>(R1 [aU [a,b,c,d,e] 5,aU [aM t,bK t,iH t,iI t,iP t] 5]).bind λ t=>(R1 [aU [a,b,c,d,e] 5,aU [aM cJ,bK cJ,iH cJ,iI cJ,iP cJ] 5]).bind λ fF=>(R2 [aU [aM fF,bK fF,iH fF,iI fF,iP fF] 5]).bind λ gA=>(R1 [aU [aM t,bK t,iH t,iI t,iP t] 5,aU [bE gA,bU gA,fD gA,fJ gA,fM gA] 5]).bind λ t=>(R0 [aU [aM t,bK t,iH t,iI t,iP t] 5]).bind λ gC=>(R1 [aU [f,g,h,i,j] 5,aU [aG gC,aO gC,cE gC,cI gC,cP gC] 5]).bind λ jJ=>(R3 []).bind λ nR=>(R4 [aU [aM jJ,bK jJ,iH jJ,iI jJ,iP jJ] 5,aU [a,b,c,d,e] 5]).bind λ nQ=>(R5 [aU [a,b,c,d,e] 5]).bind λ qZ=>(R4 [aU [aM jJ,bK jJ,iH jJ,iI jJ,iP jJ] 5,aU [fE qZ,jG qZ,rR qZ,tF qZ,tG qZ] 5]).bind λ iJ=>(R5 [aU [a,b,c,d,e] 5]).bind λ i0=>(R1 [aU [fE i0,jG i0,rR i0,tF i0,tG i0] 5,aU [1718705420411056,234908883556509,2233514472574048,2117202627021982,765476049583133] 5]).bind λ kK=>(R4 [aU [aM jJ,bK jJ,iH jJ,iI jJ,iP jJ] 5,aU [aM kK,bK kK,iH kK,iI kK,iP kK] 5]).bind λ gQ=>bif dG iJ || dG gQ then (R1 [aU [aM t,bK t,iH t,iI t,iP t] 5,aU [1718705420411056,234908883556509,2233514472574048,2117202627021982,765476049583133] 5]).bind λ t=>(R6 [aU [aM t,bK t,iH t,iI t,iP t] 5]).bind λ t=>some (AV.tup [.s (.pl (.agg (.ints .u64 [mF t,nP t,DU t,DV t,DW t]) 5)),.s (.pl (.bool (dG nQ || dG iJ)))]) else (R6 [aU [aM t,bK t,iH t,iI t,iP t] 5]).bind λ t=>some (AV.tup [.s (.pl (.agg (.ints .u64 [mF t,nP t,DU t,DV t,DW t]) 5)),.s (.pl (.bool (dG nQ || dG iJ)))]):=by kernel_rfl
end
set_option maxRecDepth 4000
theorem aIp:eF iF=AV.agg (.ints .u64 [1718705420411056,234908883556509,2233514472574048,2117202627021982,765476049583133]) 5:=by kernel_rfl
theorem xI:cS iF:=cA _
def iS:Str:=[49,57,54,56,49,49,54,49,51,55,54,55,48,55,53,48,53,57,53,54,56,48,55,48,55,57,51,48,52,57,56,56,53,52,50,48,49,53,52,52,54,48,54,54,53,49,53,57,50,51,56,57,48,49,54,50,55,52,52,48,50,49,48,55,51,49,50,51,56,50,57,55,56,52,55,53,50]
theorem bBl:(z8 iS).1%aK=19681161376707505956807079304988542015446066515923890162744021073123829784752:=by decide +kernel
abbrev bBm:Cg:=aWC (Fe) BO (λ t=>↑t.a) (λ t=>↑t.b) (λ t=>↑t.c) (λ t=>↑t.d) (λ t=>↑t.e)
theorem aQq:CfOk prog bBm.c:=gk <| aA Ja <| aH
theorem aIq:CallOk prog 35 sFI:=by
 refine fO aQq Tryz.func35 ?_;intro args t ht;unfold sFI at ht;simp only at ht;split at ht
 ·refine (bBj ..).trans ?_;have d:=nW (s:=iS) (by decide +kernel);rw [bBl] at d;refine (dW (λ o=>Option.bind o _) d).trans ?_;rfl
 ·cases ht
abbrev bBn:Cg:=aWD (Fe) NQ (λ t=>↑t.a) (λ t=>↑t.b) (λ t=>↑t.c) (λ t=>↑t.d) (λ t=>↑t.e) (Fe) iA (λ t=>↑t.a) (λ t=>↑t.b) (λ t=>↑t.c) (λ t=>↑t.d) (λ t=>↑t.e) (Fe) XD (λ t=>↑t.a) (λ t=>↑t.b) (λ t=>↑t.c) (λ t=>↑t.d) (λ t=>↑t.e) (Unit) rFI (Bool) XE (λ t=>t) (Fe) IJ (λ t=>↑t.a) (λ t=>↑t.b) (λ t=>↑t.c) (λ t=>↑t.d) (λ t=>↑t.e) (Fe) IK (λ t=>↑t.a) (λ t=>↑t.b) (λ t=>↑t.c) (λ t=>↑t.d) (λ t=>↑t.e)
theorem aQr:CfOk prog bBn.c:=gk <| aA EG <| aA kV <| aA aHK <| aA aIq <| aA Kf <| aA Cq <| aA JN <| aH
theorem JU:CallOk prog 31 aAj:=by
 refine fO aQr Tryz.func31 ?_;intro args t ht;obtain ⟨u,v,rfl,hu,hv,rfl⟩:=y5 (F:=mC) ht;have h2:=aL hv hv;have h3:=aL h2 hv;have h6:=aL h3 h3;have h7:=aL h6 hv;have a3:=aL hu h3;have a7:=aL hu h7;have hr0:cS (N0 (aN u (aN (aN (aN (aN v v) v) (aN (aN v v) v)) v))):=HG a7 (cA 1);have hr:cS (dZ u v):=aL a3 hr0;have hrr:=aL hr hr;have hc:=aL hv hrr;have hn:cS (cQ f0 u):=cR qW;have hni:=aL hn xI;have hri:=aL hr xI;have e1:=kW hv;have e2:=bF h2 hv;have e3:=kW h3;have e4:=bF h6 hv;have e5:=bF hu h3;have e6:=bF hu h7;have e7:=aEb a7;have e8:iA _=some (dZ u v):=bF a3 hr0;have e9:=kW hr;have e10:=bF hv hrr;have e11:=rV hc hu;have e12:=pK hu;have e13:=rV hc hn;have e14:=bF hn xI;have e15:=rV hc hni;have e16:=bF hr xI;have e17:=BR hri;have e18:=BR hr;rw [aIp] at e14 e16;simp only [eF] at e1 e2 e3 e4 e5 e6 e7 e8 e9 e10 e11 e12 e13 e14 e15 e16 e17 e18;refine (bBk ..).trans ?_;rw [e1,aC,e2,aC,e3,aC,e4,aC,e5,aC,e6,aC,e7,aC,e8,aC,e9,aC,e10,aC,show rFI []=some () from rfl,aC,e11,aC,e12,aC,e13,aC,aC,e14,aC,e15,aC];show _=some (aAj.enc (mC u v));rw [mC];cases (jW (aN v (aN (dZ u v) (dZ u v))) (cQ f0 u) || jW (aN v (aN (dZ u v) (dZ u v))) (aN (cQ f0 u) iF))
 ·rw [aE,e18,aC]; rfl
 ·rw [aB,e16,aC,e17,aC]; rfl
theorem FY {u v:Fe} (h:cS u) (h2:cS v):KZ [eF u,eF v]=some (mC u v):=by
 simp only [KZ,aAj];exact HL mC h h2
theorem FZ {x y:Fe}:jW x y=true ↔ cg (fv x:Int) (fv y:Int):=by
 rw [oP,jW];constructor
 ·intro h; exact aT h
 ·intro h; rw [h]; exact oH _
theorem P8:fv f0=0:=by decide
theorem bBo {x:Fe} (hx:cS x):cg (fv (cQ f0 x):Int) (-(fv x:Int)):=by
 have:=aQn (x:=f0) hx;rwa [P8,show ((0:Nat):Int) - (fv x:Int)=-(fv x:Int) by omega] at this
theorem aQs {z:Fe} (hz:cS z):cS (wX z):=by
 rw [wX];cases qS z
 ·exact hz
 ·exact cR qW
end
end Go.Eng
