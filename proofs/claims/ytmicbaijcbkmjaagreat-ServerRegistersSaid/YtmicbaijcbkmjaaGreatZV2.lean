import Derived.Test.YtmicbaijcbkmjaaGreatZV1
namespace Go.Eng
open Go Go.Proofs
set_option linter.unusedVariables false
noncomputable section
section
variable {β:Type}
def fNs (l:List Nat) (k:List Nat->β):β:=zD oM l k
theorem Jp (l:List Nat) (k:List Nat->β):fNs l k=k l:=kS nY l k
def aWc (l:List Nat) (K:List Nat->β):Nat->Nat->Nat->Nat->Nat->Nat->Nat->Nat->Nat->Nat->Nat->Nat->Nat->Nat->Nat->Nat->Nat->Nat->Nat->Nat->Nat->Nat->Nat->Nat->β :=
 List.rec (motive:=λ _=>Nat->Nat->Nat->Nat->Nat->Nat->Nat->Nat->Nat->Nat->Nat->Nat->Nat->Nat->Nat->Nat->Nat->Nat->Nat->Nat->Nat->Nat->Nat->Nat->β)
  (λ _ _ _ _ _ _ _ _ _ _ _ _ _ _ _ _ a b c d e f g h=>K [a,b,c,d,e,f,g,h])
  (λ k _ ih w0 w1 w2 w3 w4 w5 w6 w7 w8 w9 w10 w11 w12 w13 w14 w15 a b c d e f g h=>
   oM (D7 (w0+g0 w1+w9+g1 w14)) λ w16=>
   oM (D7 (h+e1 e+((e &&& f) ^^^ ((18446744073709551615 - e) &&& g))+k+w0)) λ x=>
   oM (D7 (e0 a+((a &&& b) ^^^ (a &&& c) ^^^ (b &&& c)))) λ y=>
   oM (D7 (x+y)) λ A=>oM (D7 (d+x)) λ E=>
   ih w1 w2 w3 w4 w5 w6 w7 w8 w9 w10 w11 w12 w13 w14 w15 w16 A a b c E e f g) l
end
theorem Fb (x:List Nat) {i d:Nat} (h:i < 16+d):∀ e,(cP x (d+e)).getD i 0=(cP x d).getD i 0:=by
 intro e
 induction e with
 | zero=>rfl
 | succ e ih=>
  rw [<-ih];show (BB (cP x (d+e)) (16+(d+e))).getD i 0=_;unfold BB;rw [fU,List.getElem?_set_ne (by omega),<-fU]
theorem aAI (x:List Nat) (hx:x.length=80) {i:Nat} (h:i < 64):(cP x 64).getD (i+16) 0=D7 ((cP x 64).getD i 0+g0 ((cP x 64).getD (i+1) 0)+(cP x 64).getD (i+9) 0+g1 ((cP x 64).getD (i+14) 0)):=by
 have o:∀ j,j < 16+i->(cP x 64).getD j 0=(cP x i).getD j 0:=λ j hj=>by
  have:=Fb x (d:=i) hj (64 - i);rwa [show i+(64 - i)=64 by omega] at this
 have n:=Fb x (i:=i+16) (d:=i+1) (by omega) (63 - i);rw [show i+1+(63 - i)=64 by omega] at n;rw [n,o i (by omega),o (i+1) (by omega),o (i+9) (by omega),o (i+14) (by omega)];show (BB (cP x i) (16+i)).getD (i+16) 0=_;unfold BB;rw [fU,show 16+i=i+16 by omega,List.getElem?_set_self (by rw [aAp,hx]; omega),show i+16 - 16=i by omega,show i+16 - 15=i+1 by omega,show i+16 - 7=i+9 by omega,show i+16 - 2=i+14 by omega]; rfl
theorem aZl {i:Nat} (h:i < 80):kN.drop i=kN.getD i 0 :: kN.drop (i+1):=by
 have hl:kN.length=80:=rfl;rw [Cx (by rw [hl]; exact h),fU,oD (by rw [hl]; exact h)]; rfl
theorem aM1 {β:Type} (K:List Nat->β) (x s:List Nat) (hx:x.length=80):∀ (n i:Nat),i+n=80->∀ (w0 w1 w2 w3 w4 w5 w6 w7 w8 w9 w10 w11 w12 w13 w14 w15 a b c d e f g h':Nat),
  (i+0 < 80->w0=(cP x 64).getD (i+0) 0)->(i+1 < 80->w1=(cP x 64).getD (i+1) 0)->(i+2 < 80->w2=(cP x 64).getD (i+2) 0)->(i+3 < 80->w3=(cP x 64).getD (i+3) 0)->(i+4 < 80->w4=(cP x 64).getD (i+4) 0)->(i+5 < 80->w5=(cP x 64).getD (i+5) 0)->(i+6 < 80->w6=(cP x 64).getD (i+6) 0)->(i+7 < 80->w7=(cP x 64).getD (i+7) 0)->(i+8 < 80->w8=(cP x 64).getD (i+8) 0)->(i+9 < 80->w9=(cP x 64).getD (i+9) 0)->(i+10 < 80->w10=(cP x 64).getD (i+10) 0)->(i+11 < 80->w11=(cP x 64).getD (i+11) 0)->(i+12 < 80->w12=(cP x 64).getD (i+12) 0)->(i+13 < 80->w13=(cP x 64).getD (i+13) 0)->(i+14 < 80->w14=(cP x 64).getD (i+14) 0)->(i+15 < 80->w15=(cP x 64).getD (i+15) 0) ->
  wQ (cP x 64) s i=[a,b,c,d,e,f,g,h']->aWc (kN.drop i) K w0 w1 w2 w3 w4 w5 w6 w7 w8 w9 w10 w11 w12 w13 w14 w15 a b c d e f g h'=K (wQ (cP x 64) s 80):=by
 intro n
 induction n with
 | zero=>
  intro i hi w0 w1 w2 w3 w4 w5 w6 w7 w8 w9 w10 w11 w12 w13 w14 w15 a b c d e f g h' h0 h1 h2 h3 h4 h5 h6 h7 h8 h9 h10 h11 h12 h13 h14 h15 h;have e:i=80:=by omega
  subst e;rw [h]; rfl
 | succ n ih=>
  intro i hi w0 w1 w2 w3 w4 w5 w6 w7 w8 w9 w10 w11 w12 w13 w14 w15 a b c d e f g h' h0 h1 h2 h3 h4 h5 h6 h7 h8 h9 h10 h11 h12 h13 h14 h15 h;have v:=h0 (by omega);rw [aZl (by omega)];show (oM (D7 (w0+g0 w1+w9+g1 w14)) λ w16=>
   oM (D7 (h'+e1 e+((e &&& f) ^^^ ((18446744073709551615 - e) &&& g))+kN.getD i 0+w0)) λ x=>
   oM (D7 (e0 a+((a &&& b) ^^^ (a &&& c) ^^^ (b &&& c)))) λ y=>
   oM (D7 (x+y)) λ A=>oM (D7 (d+x)) λ E=>
   aWc (kN.drop (i+1)) K w1 w2 w3 w4 w5 w6 w7 w8 w9 w10 w11 w12 w13 w14 w15 w16 A a b c E e f g)=_
  simp only [nY];refine ih (i+1) (by omega) _ _ _ _ _ _ _ _ _ _ _ _ _ _ _ _ _ _ _ _ _ _ _ _ (λ q=>by rw [h1 (by omega),show i+1=i+1+0 by omega]) (λ q=>by rw [h2 (by omega),show i+2=i+1+1 by omega]) (λ q=>by rw [h3 (by omega),show i+3=i+1+2 by omega]) (λ q=>by rw [h4 (by omega),show i+4=i+1+3 by omega]) (λ q=>by rw [h5 (by omega),show i+5=i+1+4 by omega]) (λ q=>by rw [h6 (by omega),show i+6=i+1+5 by omega]) (λ q=>by rw [h7 (by omega),show i+7=i+1+6 by omega]) (λ q=>by rw [h8 (by omega),show i+8=i+1+7 by omega]) (λ q=>by rw [h9 (by omega),show i+9=i+1+8 by omega]) (λ q=>by rw [h10 (by omega),show i+10=i+1+9 by omega]) (λ q=>by rw [h11 (by omega),show i+11=i+1+10 by omega]) (λ q=>by rw [h12 (by omega),show i+12=i+1+11 by omega]) (λ q=>by rw [h13 (by omega),show i+13=i+1+12 by omega]) (λ q=>by rw [h14 (by omega),show i+14=i+1+13 by omega]) (λ q=>by rw [h15 (by omega),show i+15=i+1+14 by omega]) (λ q=>?_) ?_
  ·rw [v,h1 (by omega),h9 (by omega),h14 (by omega),show i+1+15=i+16 by omega,aAI x hx (by omega)]; rfl
  ·show rnd (wQ (cP x 64) s i) (kN.getD i 0) ((cP x 64).getD i 0)=_;rw [h,v]; rfl
def wl:Nat->Str->List Nat
 | 0,_=>[]
 | n+1,s=>wd s 0 8 :: wl n (s.drop 8)
theorem aM2 (s:Str) (i:Nat):∀ k,wd (s.drop (8*i)) 0 k=wd s i k:=by
 intro k
 induction k with
 | zero=>rfl
 | succ k ih=>
  unfold wd;rw [ih,fU,mO,<-fU,show 8*i+(8*0+k)=8*i+k by omega]
theorem aZm (s:Str):∀ (n i j:Nat),j < n->(wl n (s.drop (8*i))).getD j 0=wd s (i+j) 8:=by
 intro n
 induction n with
 | zero=>intro i j h; omega
 | succ n ih=>
  intro i j h;unfold wl;rw [KA,show 8*i+8=8*(i+1) by omega];cases j with
  | zero=>rw [List.getD_cons_zero,aM2]; rfl
  | succ j=>rw [As,ih (i+1) j (by omega),show i+1+j=i+(j+1) by omega]
def aHd (s:List Nat) (b:Str):List Nat:=fNs (wl 16 b) λ ws=>match ws,s with
 | [w0,w1,w2,w3,w4,w5,w6,w7,w8,w9,w10,w11,w12,w13,w14,w15],[s0,s1,s2,s3,s4,s5,s6,s7]=>aWc kN (λ t=>fNs (FO [s0,s1,s2,s3,s4,s5,s6,s7] t 8) λ r=>r) w0 w1 w2 w3 w4 w5 w6 w7 w8 w9 w10 w11 w12 w13 w14 w15 s0 s1 s2 s3 s4 s5 s6 s7
 | _,_=>AW s b
theorem aHe (s:List Nat) (b:Str):aHd s b=AW s b:=by
 unfold aHd;rw [Jp];split
 ·rename_i w0 w1 w2 w3 w4 w5 w6 w7 w8 w9 w10 w11 w12 w13 w14 w15 s0 s1 s2 s3 s4 s5 s6 s7 hw;have at0:∀ j,j < 16->(cP (blk b 16) 64).getD j 0=[w0,w1,w2,w3,w4,w5,w6,w7,w8,w9,w10,w11,w12,w13,w14,w15].getD j 0:=λ j hj=>by
   rw [<-hw];have h1:=aZm b 16 0 j hj;rw [sM,kU,bS] at h1;rw [h1];have h2:=Fb (blk b 16) (i:=j) (d:=0) (by omega) 64;rw [bS] at h2;rw [h2];show (blk b 16).getD j 0=_;unfold blk;rw [fU,yO (by simpa using hj),kV,VJ hj]; rfl
  have h:=aM1 (λ t=>fNs (FO [s0,s1,s2,s3,s4,s5,s6,s7] t 8) λ r=>r) (blk b 16) [s0,s1,s2,s3,s4,s5,s6,s7] (yB b 16 (by decide)) 80 0 rfl w0 w1 w2 w3 w4 w5 w6 w7 w8 w9 w10 w11 w12 w13 w14 w15 s0 s1 s2 s3 s4 s5 s6 s7 (λ _=>(at0 0 (by decide)).symm) (λ _=>(at0 1 (by decide)).symm) (λ _=>(at0 2 (by decide)).symm) (λ _=>(at0 3 (by decide)).symm) (λ _=>(at0 4 (by decide)).symm) (λ _=>(at0 5 (by decide)).symm) (λ _=>(at0 6 (by decide)).symm) (λ _=>(at0 7 (by decide)).symm) (λ _=>(at0 8 (by decide)).symm) (λ _=>(at0 9 (by decide)).symm) (λ _=>(at0 10 (by decide)).symm) (λ _=>(at0 11 (by decide)).symm) (λ _=>(at0 12 (by decide)).symm) (λ _=>(at0 13 (by decide)).symm) (λ _=>(at0 14 (by decide)).symm) (λ _=>(at0 15 (by decide)).symm) rfl;refine h.trans ?_;rw [Jp]; rfl
 ·rfl
def Hb (h:List Nat):Nat->Str->List Nat
 | 0,_=>h
 | k+1,s=>Kj (s.take 128) λ b=>fNs (aHd h b) λ h=>Kj (s.drop 128) λ r=>Hb h k r
theorem U4:∀ (k:Nat) (h:List Nat) (s:Str),Hb h k s=AX h k s:=by
 intro k
 induction k with
 | zero=>intro h s; rfl
 | succ k ih=>intro h s; rw [Hb,sF,Jp,sF,aHe,ih]; rfl
def aHf (t:Str):List Nat:=Kj t λ t=>Kj (full t) λ u=>fNs (Hb hN (u.length / 128) u) λ h=>fNs (Cl h 64) λ r=>r
theorem Ov (t:Str):aHf t=OL t:=by
 unfold aHf;rw [sF,sF,Jp,Jp,U4]; rfl
def YN:Summ where
 T:=List Nat
 run:=λ
  | [.c (.s (.dat (.strs ss) n 1))]=>cond (CK ss n) (some (aHf (Lib.join ss []))) none
  | _=>none
 enc:=λ t=>.agg (.ints .u8 (up t)) 64
theorem aM3:CallOk prog 179 YN:=by
 have e:YN=aFM:=by
  unfold YN aFM;simp only [Ov];rfl
 rw [e]; exact TX
def hF (s:Str):Str:=Kj ((up (aHf s)).map b8) λ r=>r
theorem aPT (s:Str):hF s=hS s:=by
 unfold hF;rw [sF,Ov]; rfl
def U5 (k t:Str):Str:=Kj (n8 k 54++t) λ u=>Kj (n8 k 92++hF u) λ v=>hF v
theorem aAJ (k t:Str):U5 k t=aHL k t:=by
 unfold U5;rw [sF,sF,aPT,aPT]; rfl
def Hc:Summ where
 T:=Str
 run:=λ
  | [.c (.s (.pl (.str k))),.c (.s (.dat (.strs ss) n 1))]=>cond (Nat.beq k.length 128 && okJ ss n) (some (U5 k (Lib.join ss []))) none
  | _=>none
 enc:=λ t=>.str t
theorem aAK:CallOk prog 154 Hc:=by
 have e:Hc=PA:=by
  unfold Hc PA;simp only [aAJ];rfl
 rw [e]; exact aHV
def EM:Summ where
 T:=List Nat
 run:=λ
  | [.c (.s (.pl (.str s)))]=>cond (Nat.ble s.length 1099511627000) (some (aHf s)) none
  | _=>none
 enc:=λ t=>.agg (.ints .u8 (up t)) 64
theorem U6:CallOk prog 231 EM:=by
 have e:EM=HE:=by
  unfold EM HE;simp only [Ov];rfl
 rw [e]; exact Zk
end
noncomputable section
open Go Go.RowKit
set_option linter.all false
structure FRow where
 fn:Func
 own:List Nat
 keep:List (Nat × List Nat × List Nat)
def aWd (P:Program) (Γ:FuncId->Option Summ) (E:Efs) (r:FRow) (fu:Nat) (args:List AV):Option AV :=
 zD fAV args λ args=>match bB P r.fn ⟨⟨Γ,r.own,E⟩,r.keep⟩ fu args with
  | some v=>fAV v some
  | none=>none
def tab (P:Program) (base:FuncId->Option Summ) (E:Efs) (rows:FuncId->Option FRow) (fu:Nat):Nat->FuncId->Option Summ
 | 0,f=>base f
 | d+1,f=>match base f with
  | some S=>some S
  | none=>match rows f with
   | some r=>some ⟨aWd P (tab P base E rows fu d) E r fu,λ t=>t⟩
   | none=>none
theorem aM4 {P:Program} {Γ:FuncId->Option Summ} {E:Efs} {r:FRow} {fu:Nat} {args:List AV} {t:AV} (h:aWd P Γ E r fu args=some t):bB P r.fn ⟨⟨Γ,r.own,E⟩,r.keep⟩ fu args=some t:=by
 unfold aWd at h;rw [kS O3] at h;split at h
 ·rename_i v hv;rw [O3] at h;rw [hv]; exact h
 ·cases h
theorem aWe {P:Program} {base:FuncId->Option Summ} {E:Efs} {rows:FuncId->Option FRow} {fu:Nat} (hm:P.follows .mixedOrders=true) (hb:∀ f A,base f=some A->CallOk P f A) (hE:∀ f F,E f=some F->yX P f F)
  (hr:∀ f r,rows f=some r->P.funcs[f]?=some r.fn /\ (r.fn.name == "runtime.NumGoroutine")=false):∀ d f A,tab P base E rows fu d f=some A->CallOk P f A:=by
 intro d
 induction d with
 | zero=>exact hb
 | succ d ih=>
  intro f A h;unfold tab at h;split at h
  ·rename_i S hS;cases h; exact hb f _ hS
  ·split at h
   ·rename_i r hrr;cases h;obtain ⟨h1,h2⟩:=hr f r hrr;exact lA (g:=⟨⟨tab P base E rows fu d,r.own,E⟩,r.keep⟩) (fu:=λ _=>fu) hm ⟨ih,hE⟩ h1 h2 λ args t ht=>aM4 ht
   ·cases h
def aM5 (l:List (Nat × FRow)) (f:FuncId):Option FRow :=
 List.rec (motive:=λ _=>Option FRow) none (λ p _ ih=>Bool.rec (motive:=λ _=>Option FRow) ih (some p.2) (Nat.beq p.1 f)) l
def aPU (P:Program) (p:Nat × FRow):Prop:=P.funcs[p.1]?=some p.2.fn /\ (p.2.fn.name == "runtime.NumGoroutine")=false
theorem aM6 {P:Program} {l:List (Nat × FRow)} (h:∀ p ∈ l,aPU P p):∀ f r,aM5 l f=some r->P.funcs[f]?=some r.fn /\ (r.fn.name == "runtime.NumGoroutine")=false:=by
 induction l with
 | nil=>intro f r h; cases h
 | cons p l ih=>
  intro f r hr;have e:aM5 (p :: l) f=Bool.rec (motive:=λ _=>Option FRow) (aM5 l f) (some p.2) (Nat.beq p.1 f):=rfl;rw [e] at hr;cases hb:Nat.beq p.1 f
  ·rw [hb] at hr; exact ih (λ q hq=>h q (yQ _ hq)) f r hr
  ·rw [hb] at hr;have:p.1=f:=aS hb;subst this;cases hr; exact h p (PM ..)
end
noncomputable def Ry:List (Nat × Summ):=[(14,Mo),(36,ID),(37,MB),(105,sOf),(64,IW),(22,Gx),(72,aQj),(69,Rz),(150,Hd),(75,XG),(76,XJ),(77,XH),(78,Q7),(79,aE2),(80,aKT),(118,sCD),(146,Mp),(153,VG),(154,Hc),(71,Sq),(33,FE),(179,YN),(161,aE3),(188,aVP),(181,Cq),(19,Wr),(35,UB),(216,aVu),(219,jQ),(87,aJq),(90,I4),(92,aKB),(39,Vy),(163,aKG),(231,EM),(233,aC8),(109,IW),(129,aKV),(124,aJs),(84,XI),(119,aKU),(131,JB)]
theorem EN:∀ f A,dE Ry f=some A->CallOk prog f A:=aA K1 <| aA Kl <| aA Km <| aA Wo <| aA MC <| aA Ku <| aA Eo <| aA Ox <| aA Fc <| aA uI <| aA nN <| aA xU <| aA HG <| aA Ce <| aA Ch <| aA SC <| aA SD <| aA aHT <| aA aAK <| aA Pa <| aA Pv <| aA aM3 <| aA aFu <| aA aVV <| aA Ow <| aA Nr <| aA Q1 <| aA aVv <| aA Tn <| aA aCQ <| aA Ng <| aA Nd <| aA V3 <| aA aEj <| aA U6 <| aA aCg <| aA Oz <| aA UT <| aA U7 <| aA A8 <| aA aFy <| aA HH <| aK
noncomputable def aPV:List (Nat × FRow):=[(4,⟨Tryz.f4,[],[]⟩),
 (12,⟨Tryz.f12,[],[]⟩),
 (13,⟨Tryz.f13,[],[]⟩),
 (29,⟨Tryz.f29,[],[]⟩),
 (30,⟨Tryz.f30,[],[]⟩),
 (31,⟨Tryz.f31,[],[(8,[0,1,4,5,7,29],[4,5,6,7]),(2000000,[],[])]⟩),
 (32,⟨Tryz.f32,[],[]⟩),
 (58,⟨Tryz.f58,[],[]⟩),
 (59,⟨Tryz.f59,[],[]⟩),
 (60,⟨Tryz.f60,[],[]⟩),
 (61,⟨Tryz.f61,[],[]⟩),
 (62,⟨Tryz.f62,[],[]⟩),
 (63,⟨Tryz.f63,[],[]⟩),
 (65,⟨Tryz.f65,[],[]⟩),
 (66,⟨Tryz.f66,[],[(4,[3,6,7,8],[3]),(2000000,[],[])]⟩),
 (67,⟨Tryz.f67,[],[]⟩),
 (68,⟨Tryz.f68,[],[(9,[1,2,8,9,10,11],[2,9]),(2000000,[],[])]⟩),
 (103,⟨Tryz.f103,[],[]⟩),
 (104,⟨Tryz.f104,[],[]⟩),
 (106,⟨Tryz.f106,[],[]⟩),
 (107,⟨Tryz.f107,[],[]⟩),
 (108,⟨Tryz.f108,[],[]⟩),
 (110,⟨Tryz.f110,[],[(12,[1,8,10,11,12,13,14],[1,13]),(2000000,[],[])]⟩),
 (111,⟨Tryz.f111,[],[]⟩),
 (112,⟨Tryz.f112,[],[]⟩),
 (113,⟨Tryz.f113,[],[]⟩),
 (138,⟨Tryz.f138,[],[]⟩),
 (139,⟨Tryz.f139,[],[]⟩),
 (140,⟨Tryz.f140,[],[]⟩),
 (141,⟨Tryz.f141,[],[]⟩),
 (142,⟨Tryz.f142,[],[]⟩),
 (143,⟨Tryz.f143,[],[]⟩),
 (144,⟨Tryz.f144,[],[]⟩),
 (145,⟨Tryz.f145,[],[]⟩),
 (147,⟨Tryz.f147,[],[]⟩),
 (148,⟨Tryz.f148,[],[]⟩),
 (149,⟨Tryz.f149,[],[]⟩),
 (151,⟨Tryz.f151,[],[(4,[0,1,5,14,15],[5]),(2000000,[],[])]⟩),
 (152,⟨Tryz.f152,[],[]⟩),
 (164,⟨Tryz.f164,[],[]⟩),
 (165,⟨Tryz.f165,[],[]⟩),
 (166,⟨Tryz.f166,[],[]⟩),
 (167,⟨Tryz.f167,[],[]⟩),
 (168,⟨Tryz.f168,[],[]⟩),
 (169,⟨Tryz.f169,[],[]⟩),
 (170,⟨Tryz.f170,[],[]⟩),
 (171,⟨Tryz.f171,[],[]⟩),
 (172,⟨Tryz.f172,[],[]⟩),
 (173,⟨Tryz.f173,[],[(6,[0,1,5,13,14],[5]),(2000000,[],[])]⟩),
 (174,⟨Tryz.f174,[],[(4,[4,9,10,11],[2,3,4]),(2000000,[],[])]⟩),
 (175,⟨Tryz.f175,[],[]⟩),
 (176,⟨Tryz.f176,[],[]⟩),
 (177,⟨Tryz.f177,[],[]⟩),
 (178,⟨Tryz.f178,[],[]⟩),
 (189,⟨Tryz.f189,[],[]⟩),
 (190,⟨Tryz.f190,[],[(4,[0,3,4],[3]),(2000000,[],[])]⟩),
 (191,⟨Tryz.f191,[],[]⟩),
 (192,⟨Tryz.f192,[],[]⟩),
 (193,⟨Tryz.f193,[],[]⟩),
 (194,⟨Tryz.f194,[],[]⟩),
 (195,⟨Tryz.f195,[],[]⟩),
 (196,⟨Tryz.f196,[],[]⟩),
 (197,⟨Tryz.f197,[],[]⟩),
 (198,⟨Tryz.f198,[],[]⟩),
 (207,⟨Tryz.f207,[],[]⟩),
 (208,⟨Tryz.f208,[],[]⟩),
 (209,⟨Tryz.f209,[],[]⟩),
 (210,⟨Tryz.f210,[],[]⟩),
 (211,⟨Tryz.f211,[],[]⟩),
 (212,⟨Tryz.f212,[],[(5,[1,2,3,5,6],[2,5]),(2000000,[],[])]⟩),
 (217,⟨Tryz.f217,[],[]⟩),
 (218,⟨Tryz.f218,[],[(7,[1,7,8,9,10,11],[1,10]),(11,[1,7,8,9,10,11,12,13],[1,7,8,10,11,12]),(2000000,[],[])]⟩),
 (220,⟨Tryz.f220,[],[]⟩),
 (221,⟨Tryz.f221,[],[]⟩),
 (222,⟨Tryz.f222,[],[]⟩),
 (225,⟨Tryz.f225,[],[]⟩),
 (226,⟨Tryz.f226,[],[]⟩),
 (228,⟨Tryz.f228,[],[]⟩),
 (229,⟨Tryz.f229,[],[]⟩),
 (230,⟨Tryz.f230,[],[(4,[1,3,4],[3]),(2000000,[],[])]⟩),
 (215,⟨Tryz.f215,[],[]⟩),
 (234,⟨Tryz.f234,[],[]⟩),
 (235,⟨Tryz.f235,[],[]⟩),
 (236,⟨Tryz.f236,[],[]⟩),
 (237,⟨Tryz.f237,[],[]⟩),
 (242,⟨Tryz.f242,[],[]⟩)]
theorem aHg:∀ p ∈ aPV,aPU prog p:=List.forall_mem_cons.2 ⟨⟨Tryz.func4,by kernel_rfl⟩,List.forall_mem_cons.2 ⟨⟨Tryz.func12,by kernel_rfl⟩,List.forall_mem_cons.2 ⟨⟨Tryz.func13,by kernel_rfl⟩,List.forall_mem_cons.2 ⟨⟨Tryz.func29,by kernel_rfl⟩,List.forall_mem_cons.2 ⟨⟨Tryz.func30,by kernel_rfl⟩,List.forall_mem_cons.2 ⟨⟨Tryz.func31,by kernel_rfl⟩,List.forall_mem_cons.2 ⟨⟨Tryz.func32,by kernel_rfl⟩,List.forall_mem_cons.2 ⟨⟨Tryz.func58,by kernel_rfl⟩,List.forall_mem_cons.2 ⟨⟨Tryz.func59,by kernel_rfl⟩,List.forall_mem_cons.2 ⟨⟨Tryz.func60,by kernel_rfl⟩,List.forall_mem_cons.2 ⟨⟨Tryz.func61,by kernel_rfl⟩,List.forall_mem_cons.2 ⟨⟨Tryz.func62,by kernel_rfl⟩,List.forall_mem_cons.2 ⟨⟨Tryz.func63,by kernel_rfl⟩,List.forall_mem_cons.2 ⟨⟨Tryz.func65,by kernel_rfl⟩,List.forall_mem_cons.2 ⟨⟨Tryz.func66,by kernel_rfl⟩,List.forall_mem_cons.2 ⟨⟨Tryz.func67,by kernel_rfl⟩,List.forall_mem_cons.2 ⟨⟨Tryz.func68,by kernel_rfl⟩,List.forall_mem_cons.2 ⟨⟨Tryz.func103,by kernel_rfl⟩,List.forall_mem_cons.2 ⟨⟨Tryz.func104,by kernel_rfl⟩,List.forall_mem_cons.2 ⟨⟨Tryz.func106,by kernel_rfl⟩,List.forall_mem_cons.2 ⟨⟨Tryz.func107,by kernel_rfl⟩,List.forall_mem_cons.2 ⟨⟨Tryz.func108,by kernel_rfl⟩,List.forall_mem_cons.2 ⟨⟨Tryz.func110,by kernel_rfl⟩,List.forall_mem_cons.2 ⟨⟨Tryz.func111,by kernel_rfl⟩,List.forall_mem_cons.2 ⟨⟨Tryz.func112,by kernel_rfl⟩,List.forall_mem_cons.2 ⟨⟨Tryz.func113,by kernel_rfl⟩,List.forall_mem_cons.2 ⟨⟨Tryz.func138,by kernel_rfl⟩,List.forall_mem_cons.2 ⟨⟨Tryz.func139,by kernel_rfl⟩,List.forall_mem_cons.2 ⟨⟨Tryz.func140,by kernel_rfl⟩,List.forall_mem_cons.2 ⟨⟨Tryz.func141,by kernel_rfl⟩,List.forall_mem_cons.2 ⟨⟨Tryz.func142,by kernel_rfl⟩,List.forall_mem_cons.2 ⟨⟨Tryz.func143,by kernel_rfl⟩,List.forall_mem_cons.2 ⟨⟨Tryz.func144,by kernel_rfl⟩,List.forall_mem_cons.2 ⟨⟨Tryz.func145,by kernel_rfl⟩,List.forall_mem_cons.2 ⟨⟨Tryz.func147,by kernel_rfl⟩,List.forall_mem_cons.2 ⟨⟨Tryz.func148,by kernel_rfl⟩,List.forall_mem_cons.2 ⟨⟨Tryz.func149,by kernel_rfl⟩,List.forall_mem_cons.2 ⟨⟨Tryz.func151,by kernel_rfl⟩,List.forall_mem_cons.2 ⟨⟨Tryz.func152,by kernel_rfl⟩,List.forall_mem_cons.2 ⟨⟨Tryz.func164,by kernel_rfl⟩,List.forall_mem_cons.2 ⟨⟨Tryz.func165,by kernel_rfl⟩,List.forall_mem_cons.2 ⟨⟨Tryz.func166,by kernel_rfl⟩,List.forall_mem_cons.2 ⟨⟨Tryz.func167,by kernel_rfl⟩,List.forall_mem_cons.2 ⟨⟨Tryz.func168,by kernel_rfl⟩,List.forall_mem_cons.2 ⟨⟨Tryz.func169,by kernel_rfl⟩,List.forall_mem_cons.2 ⟨⟨Tryz.func170,by kernel_rfl⟩,List.forall_mem_cons.2 ⟨⟨Tryz.func171,by kernel_rfl⟩,List.forall_mem_cons.2 ⟨⟨Tryz.func172,by kernel_rfl⟩,List.forall_mem_cons.2 ⟨⟨Tryz.func173,by kernel_rfl⟩,List.forall_mem_cons.2 ⟨⟨Tryz.func174,by kernel_rfl⟩,List.forall_mem_cons.2 ⟨⟨Tryz.func175,by kernel_rfl⟩,List.forall_mem_cons.2 ⟨⟨Tryz.func176,by kernel_rfl⟩,List.forall_mem_cons.2 ⟨⟨Tryz.func177,by kernel_rfl⟩,List.forall_mem_cons.2 ⟨⟨Tryz.func178,by kernel_rfl⟩,List.forall_mem_cons.2 ⟨⟨Tryz.func189,by kernel_rfl⟩,List.forall_mem_cons.2 ⟨⟨Tryz.func190,by kernel_rfl⟩,List.forall_mem_cons.2 ⟨⟨Tryz.func191,by kernel_rfl⟩,List.forall_mem_cons.2 ⟨⟨Tryz.func192,by kernel_rfl⟩,List.forall_mem_cons.2 ⟨⟨Tryz.func193,by kernel_rfl⟩,List.forall_mem_cons.2 ⟨⟨Tryz.func194,by kernel_rfl⟩,List.forall_mem_cons.2 ⟨⟨Tryz.func195,by kernel_rfl⟩,List.forall_mem_cons.2 ⟨⟨Tryz.func196,by kernel_rfl⟩,List.forall_mem_cons.2 ⟨⟨Tryz.func197,by kernel_rfl⟩,List.forall_mem_cons.2 ⟨⟨Tryz.func198,by kernel_rfl⟩,List.forall_mem_cons.2 ⟨⟨Tryz.func207,by kernel_rfl⟩,List.forall_mem_cons.2 ⟨⟨Tryz.func208,by kernel_rfl⟩,List.forall_mem_cons.2 ⟨⟨Tryz.func209,by kernel_rfl⟩,List.forall_mem_cons.2 ⟨⟨Tryz.func210,by kernel_rfl⟩,List.forall_mem_cons.2 ⟨⟨Tryz.func211,by kernel_rfl⟩,List.forall_mem_cons.2 ⟨⟨Tryz.func212,by kernel_rfl⟩,List.forall_mem_cons.2 ⟨⟨Tryz.func217,by kernel_rfl⟩,List.forall_mem_cons.2 ⟨⟨Tryz.func218,by kernel_rfl⟩,List.forall_mem_cons.2 ⟨⟨Tryz.func220,by kernel_rfl⟩,List.forall_mem_cons.2 ⟨⟨Tryz.func221,by kernel_rfl⟩,List.forall_mem_cons.2 ⟨⟨Tryz.func222,by kernel_rfl⟩,List.forall_mem_cons.2 ⟨⟨Tryz.func225,by kernel_rfl⟩,List.forall_mem_cons.2 ⟨⟨Tryz.func226,by kernel_rfl⟩,List.forall_mem_cons.2 ⟨⟨Tryz.func228,by kernel_rfl⟩,List.forall_mem_cons.2 ⟨⟨Tryz.func229,by kernel_rfl⟩,List.forall_mem_cons.2 ⟨⟨Tryz.func230,by kernel_rfl⟩,List.forall_mem_cons.2 ⟨⟨Tryz.func215,by kernel_rfl⟩,List.forall_mem_cons.2 ⟨⟨Tryz.func234,by kernel_rfl⟩,List.forall_mem_cons.2 ⟨⟨Tryz.func235,by kernel_rfl⟩,List.forall_mem_cons.2 ⟨⟨Tryz.func236,by kernel_rfl⟩,List.forall_mem_cons.2 ⟨⟨Tryz.func237,by kernel_rfl⟩,List.forall_mem_cons.2 ⟨⟨Tryz.func242,by kernel_rfl⟩,λ _ h=>(List.not_mem_nil h).elim⟩⟩⟩⟩⟩⟩⟩⟩⟩⟩⟩⟩⟩⟩⟩⟩⟩⟩⟩⟩⟩⟩⟩⟩⟩⟩⟩⟩⟩⟩⟩⟩⟩⟩⟩⟩⟩⟩⟩⟩⟩⟩⟩⟩⟩⟩⟩⟩⟩⟩⟩⟩⟩⟩⟩⟩⟩⟩⟩⟩⟩⟩⟩⟩⟩⟩⟩⟩⟩⟩⟩⟩⟩⟩⟩⟩⟩⟩⟩⟩⟩⟩⟩⟩⟩⟩
noncomputable def Af (L:List (Nat × Summ)) (f:FuncId) (args:List AV):Option AV:=match tab prog (dE L) dR (aM5 aPV) 300 40 f with
 | some S=>match S.run args with
  | some t=>fAV (S.enc t) some
  | none=>none
 | none=>none
def Jq (o:Option AV):Bool:=match o with
 | some (.c (.s (.pl (.bool b))))=>b
 | _=>false
theorem sB {L:List (Nat × Summ)} (hL:∀ f A,dE L f=some A->CallOk prog f A) {f:FuncId} (h:Jq (Af L f [])=true):CallOk prog f jQ:=by
 unfold Af at h;split at h
 case h_2=>cases h
 rename_i S hS;have hc:=aWe gH hL (λ _ _ h=>by cases h) (aM6 aHg) 40 f S hS;split at h
 case h_2=>cases h
 rename_i t ht;rw [O3] at h;intro args u hu;unfold jQ at hu;simp only at hu;split at hu
 case h_2=>cases hu
 have e:S.enc t=AV.bool true:=by
  generalize S.enc t=v at *;unfold Jq at h;split at h
  ·rename_i b hb;cases h; exact dG hb
  ·cases h
 have g:=hc [] t ht;rw [e] at g;exact g
end Go.Eng
