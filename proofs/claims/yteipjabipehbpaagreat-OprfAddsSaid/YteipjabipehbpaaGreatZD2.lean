import Derived.Test.YteipjabipehbpaaGreatZD1
namespace Go.Eng
set_option linter.unusedVariables false
theorem q8_0:Pr 2551:=small (by decide +kernel)
theorem q8_1:Pr 1224481:=pock [2551] 2 21 (by simp [q8_0]) (by decide) (by decide +kernel)
theorem q8_2:Pr 3797:=small (by decide +kernel)
theorem q8_3:Pr 531581:=pock [3797] 2 20 (by simp [q8_2]) (by decide) (by decide +kernel)
theorem q8_4:Pr 1257559732178653:=pock [1224481,531581] 2 51 (by simp [q8_1,q8_3]) (by decide) (by decide +kernel)
theorem q8_5:Pr 4434155615661930479:=pock [1257559732178653] 2 62 (by simp [q8_4]) (by decide) (by decide +kernel)
theorem q8_6:Pr 172054593956031949258510691:=pock [4434155615661930479] 2 88 (by simp [q8_5]) (by decide) (by decide +kernel)
theorem q8_7:Pr 19757330305831588566944191468367130476339:=pock [172054593956031949258510691] 2 134 (by simp [q8_6]) (by decide) (by decide +kernel)
theorem q8_8:Pr 276602624281642239937218680557139826668747:=pock [19757330305831588566944191468367130476339] 2 138 (by simp [q8_7]) (by decide) (by decide +kernel)
theorem q8_9:Pr 7237005577332262213973186563042994240857116359379907606001950938285454250989:=pock [276602624281642239937218680557139826668747] 2 253 (by simp [q8_8]) (by decide) (by decide +kernel)
theorem prL:Pr 7237005577332262213973186563042994240857116359379907606001950938285454250989:=q8_9
open Go Go.Proofs
theorem inv_L {k:Nat} (h0:0 < k) (h:k < LN):k*k ^ (LN - 2)%LN=1:=by
 have hd:¬ LN ∣ k:=fun hd=>by have:=Nat.le_of_dvd h0 hd; omega
 exact fermat_succ (p:=LN) prL hd (by decide)
theorem nsm_free {g:CP.G} (hL:CP.nsm LN g=CP.zero) {k u:Nat} (hu:k*u%LN=1) (hz:CP.nsm k g=CP.zero):g=CP.zero:=by
 have h1:CP.nsm (k*u%LN) g=g:=by rw [hu,CP.nsm_one]
 rw [CP.nsm_mod hL,Nat.mul_comm,CP.nsm_mul,hz,CP.nsm_zero] at h1
 exact h1.symm
theorem nsm_ne {k:Nat} (h0:0 < k) (h:k < LN):CP.nsm k gB ≠ CP.zero:=fun hz=>by
 have hu:=inv_L h0 h
 generalize k ^ (LN - 2)=u at hu
 exact gB_ne (nsm_free gB_ord hu hz)
theorem nsm_lt {a b:Nat} (h:a < b) (hb:b < LN):CP.nsm a gB ≠ CP.nsm b gB:=fun e=>by
 have h1:CP.nsm b gB=CP.add (CP.nsm (b - a) gB) (CP.nsm a gB):=by rw [<-CP.nsm_add,Nat.sub_add_cancel (Nat.le_of_lt h)]
 rw [<-e] at h1
 have h2:CP.add (CP.nsm (b - a) gB) (CP.nsm a gB)=CP.add CP.zero (CP.nsm a gB):=by rw [<-h1,CP.zero_add]
 exact nsm_ne (by omega) (by omega) (CP.add_can h2)
theorem nsm_inj {a b:Nat} (ha:a < LN) (hb:b < LN):CP.nsm a gB=CP.nsm b gB ↔ a=b:=by
 constructor
 ·intro e
  rcases Nat.lt_trichotomy a b with h | h | h
  ·exact absurd e (nsm_lt h hb)
  ·exact h
  ·exact absurd e.symm (nsm_lt h ha)
 ·rintro rfl; rfl
section
variable {q:Nat} [NeZero q]
end
set_option linter.unusedSimpArgs false
def ptL:List Int->Option Pt
 | [a,b,c,d,e,f,g,h,i,j,k,l,m,n,o,p,q,r,s,t]=>cond (inF a b c d e && (inF f g h i j && (inF k l m n o && inF p q r s t))) (some ⟨toF a b c d e,toF f g h i j,toF k l m n o,toF p q r s t⟩) none
 | _=>none
set_option maxRecDepth 4000
theorem bstep {α β:Type} {o:Option α} {a:α} {k:α->Option β} {r:Option β} (h:o=some a) (hk:k a=r):o.bind k=r:=by
 subst h; exact hk
theorem cstep {β:Type} {b:Bool} {x y r:Option β} (h:b=true) (hk:x=r):cond b x y=r:=by
 subst h; exact hk
theorem ptL_ok {l:List Int} {p:Pt} (h:ptL l=some p):l=rowP p /\ pOk p:=by
 unfold ptL at h
 split at h
 ·obtain ⟨h1,h2⟩:=ctrueS h
  simp only [Bool.and_eq_true] at h1
  obtain ⟨x,rfl,rfl,rfl,rfl,rfl,hx,ex⟩:=inF_ok h1.1
  obtain ⟨y,rfl,rfl,rfl,rfl,rfl,hy,ey⟩:=inF_ok h1.2.1
  obtain ⟨z,rfl,rfl,rfl,rfl,rfl,hz,ez⟩:=inF_ok h1.2.2.1
  obtain ⟨w,rfl,rfl,rfl,rfl,rfl,hw,ew⟩:=inF_ok h1.2.2.2
  rw [ex,ey,ez,ew] at h2
  subst h2
  exact ⟨rfl,hx,hy,hz,hw⟩
 ·cases h
theorem ptL_row {p:Pt} (h:pOk p):ptL (rowP p)=some p:=by
 obtain ⟨x,y,z,w⟩:=p
 obtain ⟨h1,h2,h3,h4⟩:=h
 simp only [ptL,rowP]
 rw [inF_of h1,inF_of h2,inF_of h3,inF_of h4]; rfl
end Go.Eng
