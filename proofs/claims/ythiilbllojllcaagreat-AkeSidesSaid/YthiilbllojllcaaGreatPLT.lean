/- The contracts of limb.Parse, Bytes. -/
import Derived.Test.YthiilbllojllcaaGreatPLR
namespace Go.Eng
open Go Go.Proofs
set_option linter.all false
noncomputable abbrev aYE:Cg:=aKm 
theorem bF8:CfOk prog aYE.c:=gk <| aH
noncomputable abbrev aYF:Cg:=aKp 
theorem bF9:CfOk prog aYF.c:=gk <| aH
theorem aVG (s:Str) (i:Nat) (h:i < s.length):vS (s.take (i+1))=vS (s.take i)+256 ^ i*(s.getD i 0).toNat:=by
 unfold vS;rw [CX s i 0 h,rP];have:=Sx ((s.take i).map sE) (s.getD i 0).toNat
 rw [eZ,dH,G9 (by omega)] at this;exact this
theorem aYG (s:Str):vS s < 256 ^ s.length:=by
 have:=IR _ (S4 s);rwa [eZ] at this
theorem bGa (n c i:Nat) (hi:i < 64) (hn:n < 256 ^ i) (hc:c < 256) :
  (cM 8 n).set (0+i / 8) (Fv .u64 ((cM 8 n).getD (0+i / 8) 0) (mE .u64 (IntKind.u64.wrap (c:Int)) ((8*(i%8):Nat):Int)))=cM 8 (n+256 ^ i*c):=by
 have hr:i%8 < 8:=bH _ (by decide);have hi':i=8*(i / 8)+i%8:=(eI i 8).symm;generalize i / 8=q at *;generalize i%8=r at *;have hq:q < 8:=by omega
 have e0:(256:Nat) ^ i=18446744073709551616 ^ q*256 ^ r:=by
  rw [hi',dV,lJ]
 have hx:n / 18446744073709551616 ^ q < 256 ^ r:=by
  rw [DP (jF (by decide)),bV,<-e0]; exact hn
 have h7:(256:Nat) ^ r <= 256 ^ 7:=kM (by decide) (by omega);have h8:256 ^ r*c < 18446744073709551616:=by
  have:256 ^ r*c <= 256 ^ 7*255:=jT h7 (by omega);omega
 have hxl:n / 18446744073709551616 ^ q%18446744073709551616=n / 18446744073709551616 ^ q:=aY (by omega);have e2:(2:Nat) ^ (8*r)=256 ^ r:=by rw [lJ]
 have hor:=Au (i:=8*r) (b:=n / 18446744073709551616 ^ q) (by rw [e2]; exact hx) c;rw [e2] at hor;have hs:256 ^ r*c+n / 18446744073709551616 ^ q < 18446744073709551616:=by
  have:256 ^ r*c+n / 18446744073709551616 ^ q < 256 ^ r*(c+1):=by rw [yC]; omega
  have:256 ^ r*(c+1) <= 256 ^ 7*256:=jT h7 (by omega);omega
 rw [bT,zU 8 q n hq,gP,aY (by omega:c < 18446744073709551616),Gw _ _ (by omega),e2,bV c,aY h8,hxl,Sn _ _ (by omega) h8,Nat.or_comm,<-hor,KI (256 ^ r*c)];have:=TX 8 q n (256 ^ r*c) hq (by rw [hxl]; omega);rw [hxl] at this;rw [this,e0,dU]
theorem aOc (i:Nat) (hi:i < 64):IntKind.i64.wrap (((i:Nat):Int).tdiv 8)=((i / 8:Nat):Int) /\ IntKind.i64.wrap ((8:Int)*((i:Nat):Int).tmod 8)=((8*(i%8):Nat):Int):=by
 have h1:((i:Nat):Int).tdiv 8=((i / 8:Nat):Int):=by rw [qH (by omega)]; omega
 have h2:((i:Nat):Int).tmod 8=((i%8:Nat):Int):=by rw [mQ (by omega)]; omega
 rw [h1,h2];exact ⟨bW (by omega) (by omega),by rw [bW (by omega) (by omega)]; omega⟩
theorem aVH (s:Str) (hl:s.length <= 64) (fu:Nat):∀ (d n i:Nat),i+d=s.length->d < n ->
  eV prog aYE fu aKn (aKo fu) n (some (aBy s (s.length:Int) (i:Int) (cM 8 0) (cM 8 (vS (s.take i)))))=some (QE.enc (vS s,0)):=by
 intro d
 induction d with
 | zero=>
  intro n i hi hn;obtain ⟨n,rfl⟩:=aP (by omega:n ≠ 0);have e:i=s.length:=by omega
  subst e;rw [aF,aXy,aJ (by omega),aE,aR,aRW,Ar]; rfl
 | succ d ih=>
  intro n i hi hn;obtain ⟨n,rfl⟩:=aP (by omega:n ≠ 0);have hb:=(s.getD i 0).toNat_lt;have hlt:vS (s.take i) < 256 ^ i:=by
   have:=aYG (s.take i);rwa [dH,G9 (by omega)] at this
  obtain ⟨i1,i2⟩:=aOc i (by omega);have:=ih n (i+1) (by omega) (by omega);rw [aVG s i (by omega)] at this;rw [aF,aXy,aD (by omega),aB,i1,i2,aD (by omega),aB,aD (by omega),aB,aJ (by omega),aE,aB,bD,bD,bW (by omega) (by omega),
   bGa _ _ i (by omega) hlt (by omega)]
  exact this
theorem Wk:CallOk prog 44 QE:=by
 refine aZ (fu:=λ _=>65) bF8 Tryz.func44 ?_;intro args t ht;unfold QE at ht;simp only at ht;split at ht
 ·rename_i s;obtain ⟨h1,h2⟩:=bA ht;have h1:=vA h1;cases h2;refine (bHn ..).trans ?_;by_cases h:64 < s.length
  ·rw [aD (by omega),aB,show Nat.blt 64 s.length=true by rw [cY]; exact h,aB];show _=some (AV.tup [.s (.pl (.agg (.ints .u64 (cM 8 0)) 8)),.s (.pl (.int .i64 5))]);rw [i7]
  ·rw [aJ (by omega),aE,show Nat.blt 64 s.length=false by rw [M6]; intro hc; rw [cY] at hc; exact h hc];have:=aVH s (by omega) 65 s.length 65 0 (by omega) (by omega);rw [sM,show vS []=0 from rfl,i7] at this;exact this
 ·cases ht
theorem bIt (x i:Nat) (hi:i < 64):IntKind.u8.wrap (eJ .u64 ((cM 8 x).getD (0+i / 8) 0) ((8*(i%8):Nat):Int))=((dg x i:Nat):Int):=by
 have hr:i%8 < 8:=bH _ (by decide);have hi':i=8*(i / 8)+i%8:=(eI i 8).symm;rw [dg,hi'];generalize i / 8=q at *;generalize i%8=r at *;rw [show (8*q+r) / 8=q by omega,show (8*q+r)%8=r by omega,bT,zU 8 q x (by omega),pF _ _ (by omega),qD,dV,lJ,lJ,<-jE,show (256:Nat) ^ 8=18446744073709551616 from rfl,show (2:Nat) ^ 8=256 from rfl];generalize x / 18446744073709551616 ^ q=w;have e:(18446744073709551616:Nat)=256 ^ r*(256*256 ^ (7 - r)):=by
  have h8:256 ^ r*(256*256 ^ (7 - r))=256 ^ 8:=by
   rw [<-dU,<-bM,<-dV,show r+1+(7 - r)=8 by omega]
  rw [h8]
 rw [e,KM,TF]
theorem aVI (x:Nat) (fu:Nat):∀ (d n i:Nat),i+d=64->d < n ->
  eV prog aYF fu aKq (aKr fu) n (some (aBA 64 64 (i:Int) (cM 8 x) 64 (lo i x++List.replicate (64 - i) 0)))=some (.str (JC 64 x)):=by
 intro d
 induction d with
 | zero=>
  intro n i hi hn;obtain ⟨n,rfl⟩:=aP (by omega:n ≠ 0);have e:i=64:=by omega
  subst e;rw [aF,aXz,aJ (by omega),aE,aR,aRX,iL,sJ,jC]; rfl
 | succ d ih=>
  intro n i hi hn;obtain ⟨n,rfl⟩:=aP (by omega:n ≠ 0);obtain ⟨i1,i2⟩:=aOc i (by omega);have:=ih n (i+1) (by omega) (by omega);rw [aF,aXz,aD (by omega),aB,i1,i2,aD (by omega),aB,aJ (by omega),aE,aD (by omega),aB,bD,bD,bW (by omega) (by omega),bIt x i (by omega),Wj x 64 i (by omega)];exact this
theorem aOd:CallOk prog 194 aIx:=by
 refine aZ (fu:=λ _=>65) bF9 Tryz.func194 ?_;intro args t ht;obtain ⟨a,rfl,ha,rfl⟩:=w9 (F:=λ a=>JC 64 (val a)) ht;refine (bHp ..).trans ?_;have:=aVI (val a) 65 64 65 0 (by omega) (by decide);rw [oA ha] at this;exact this
theorem PZ {s:Str} (h:s.length <= 1099511627776):Xc [.str s]=some (cond (Nat.blt 64 s.length) (0,5) (vS s,0)):=by
 show cond (decide (s.length <= 1099511627776)) _ none=_;rw [aD h]; rfl
theorem aGk {a:List Int} (ha:gK a=true):aIy [W8 a]=some (JC 64 (val a)):=lN (λ a=>JC 64 (val a)) ha
end Go.Eng
