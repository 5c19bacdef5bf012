import Derived.Test.YtmicbaijcbkmjaaGreatZR2
namespace Go.Eng
open Go.IntKind (u64 i64 u8)
noncomputable section
open Go Go.Proofs
set_option linter.all false
def aB9:Cg:=⟨⟨dE [],[],dR⟩,[(6,[0,2,4,11,12],[2,4])]⟩
def Vi (s0:Str) (gF gU:Int) (aQ bA:List Int):St:={ tm:=[(0,.str s0),(2,.s (.ptr 0 0 8)),(4,.s (.ptr 1 0 8)),(11,.int .i64 gF),(12,.int .i64 gU)],hp:=[(0,{ ty:=32,n:=8,row:=Row.t (.ints .u64 aQ) }),(1,{ ty:=32,n:=8,row:=Row.t (.ints .u64 bA) })],nx:=2,sz:=31 }
def aCa:Code:=cM (bN [1,1,1,0,1,2] (bD Tryz.f38))
def aCb (fu:Nat):=lP prog aB9 fu [1,1,1,0,1,2] (bD Tryz.f38) (fT prog Tryz.f38)
abbrev aXD (fu:Nat) (s0:Str) (gF gU:Int) (aQ bA:List Int):=eS prog aB9 fu aCa (aCb fu ) fu (some (Vi s0 gF gU aQ bA))
theorem aXE (fu:Nat) (s:Str):bB prog Tryz.f38 aB9 fu [.str s]=bif decide (64 < (↑(List.length s):Int)) then some (AV.tup [.s (.pl (.agg (.ints .u64 [0,0,0,0,0,0,0,0]) 8)),.s (.pl (.int .i64 5))]) else aXD fu s (↑(List.length s):Int) 0 [0,0,0,0,0,0,0,0] [0,0,0,0,0,0,0,0]:=by kernel_rfl
def Vj (aQ bA:List Int):St:={ tm:=[(2,.s (.ptr 0 0 8)),(4,.s (.ptr 1 0 8))],hp:=[(0,{ ty:=32,n:=8,row:=Row.t (.ints .u64 aQ) }),(1,{ ty:=32,n:=8,row:=Row.t (.ints .u64 bA) })],nx:=2,sz:=31 }
theorem aOg {β:Type} (fu:Nat) (G:FG β) (H:FH β) (s0:Str) (gF gU:Int) (aQ bA:List Int):fI prog aB9 fu aCa G H (Vi s0 gF gU aQ bA)=bif decide (gU < gF) then bif decide (0 <= i64.wrap (gU.tdiv 8) /\ i64.wrap (gU.tdiv 8) < 8) then bif decide (0 <= gU /\ gU < (↑(List.length s0):Int)) then bif decide (i64.wrap (8*gU.tmod 8) < 0) then none else bif decide (0 <= i64.wrap (gU.tdiv 8) /\ i64.wrap (gU.tdiv 8) < 8) then G (some (Vi s0 gF (i64.wrap (gU+1)) aQ (bA.set (0+(i64.wrap (gU.tdiv 8)).toNat) (Du .u64 (bA.getD (0+(i64.wrap (gU.tdiv 8)).toNat) 0) (j9 .u64 (u64.wrap (↑(List.getD s0 gU.toNat (0:UInt8)).toNat:Int)) (i64.wrap (8*gU.tmod 8))))))) else none else none else none else H (Ex.exit 0) (some (Vj aQ bA)):=by kernel_rfl
theorem aI0 (fu:Nat) (aQ bA:List Int):aCb fu  (Ex.exit 0) (Vj aQ bA)=some (AV.tup [.s (.pl (.agg (.ints .u64 bA) 8)),.s (.pl (.int .i64 0))]):=by kernel_rfl
def aCc:Cg:=⟨⟨dE [],[],dR⟩,[(4,[1,3,7,8],[3])]⟩
def Vk (n3:Nat) (v7 v8:Int) (aQ:List Int) (dP:Nat) (bA:List Int):St:={ tm:=[(1,.s (.ptr 0 0 8)),(3,.s (.own 1 n3 1)),(7,.int .i64 v7),(8,.int .i64 v8)],hp:=[(0,{ ty:=32,n:=8,row:=Row.t (.ints .u64 aQ) }),(1,{ ty:=5,n:=dP,row:=Row.t (.ints .u8 bA) })],nx:=2,sz:=26 }
def aCd:Code:=cM (bN [1,1,0,1,2] (bD Tryz.f233))
def aCe (fu:Nat):=lP prog aCc fu [1,1,0,1,2] (bD Tryz.f233) (fT prog Tryz.f233)
abbrev aXF (fu:Nat) (n3:Nat) (v7 v8:Int) (aQ:List Int) (dP:Nat) (bA:List Int):=eS prog aCc fu aCd (aCe fu ) fu (some (Vk n3 v7 v8 aQ dP bA))
theorem aXG (fu:Nat) (a:List Int):bB prog Tryz.f233 aCc fu [W8 a]=aXF fu 64 64 0 a 64 (List.replicate 64 0):=by kernel_rfl
def Vl (n3 gB:Nat) (aQ:List Int):St:={ tm:=[(3,.s (.own 0 n3 1))],hp:=[(0,{ ty:=5,n:=gB,row:=Row.t (.ints .u8 aQ) })],nx:=1,sz:=26 }
theorem aOh {β:Type} (fu:Nat) (G:FG β) (H:FH β) (n3:Nat) (v7 v8:Int) (aQ:List Int) (dP:Nat) (bA:List Int):fI prog aCc fu aCd G H (Vk n3 v7 v8 aQ dP bA)=bif decide (v8 < v7) then bif decide (0 <= i64.wrap (v8.tdiv 8) /\ i64.wrap (v8.tdiv 8) < 8) then bif decide (i64.wrap (8*v8.tmod 8) < 0) then none else bif decide (0 <= v8 /\ v8 < (n3:Int)) then G (some (Vk n3 v7 (i64.wrap (v8+1)) aQ dP (bA.set v8.toNat (u8.wrap (eK .u64 (aQ.getD (0+(i64.wrap (v8.tdiv 8)).toNat) 0) (i64.wrap (8*v8.tmod 8))))))) else none else none else H (Ex.exit 0) (some (Vl n3 dP bA)):=by kernel_rfl
theorem aI1 (fu:Nat) (n3 gB:Nat) (aQ:List Int):aCe fu  (Ex.exit 0) (Vl n3 gB aQ)=some (AV.str (List.map b8 aQ)):=by kernel_rfl
theorem Vm {a:List Int} (ha:jO a=true) (i:Int):aSl [W8 a,.int .i64 i]=some (mH (val a) i):=by
 show cond (jO a) (some (mH (val a) i)) none=_;rw [ha]; rfl
abbrev aOi:Cg:=aB9 
theorem aRN:CfOk prog aOi.c:=gk <| aK
abbrev aOj:Cg:=aCc 
theorem aRO:CfOk prog aOj.c:=gk <| aK
theorem aI2 (s:Str) (i:Nat) (h:i < s.length):vS (s.take (i+1))=vS (s.take i)+256 ^ i*(s.getD i 0).toNat:=by
 unfold vS;rw [Ae s i 0 h,vG];have:=Oj ((s.take i).map lO) (s.getD i 0).toNat
 rw [iA,dV,Ef (by omega)] at this;exact this
theorem aOk (s:Str):vS s < 256 ^ s.length:=by
 have:=GD _ (Ha s);rwa [iA] at this
theorem aRP (n c i:Nat) (hi:i < 64) (hn:n < 256 ^ i) (hc:c < 256) :
  (cQ 8 n).set (0+i / 8) (Du .u64 ((cQ 8 n).getD (0+i / 8) 0) (j9 .u64 (u64.wrap (c:Int)) ((8*(i%8):Nat):Int)))=cQ 8 (n+256 ^ i*c):=by
 have hr:i%8 < 8:=bK _ (by decide);have hi':i=8*(i / 8)+i%8:=(eO i 8).symm;generalize i / 8=q at *;generalize i%8=r at *;have hq:q < 8:=by omega
 have e0:(256:Nat) ^ i=18446744073709551616 ^ q*256 ^ r:=by
  rw [hi',dM,jK]
 have hx:n / 18446744073709551616 ^ q < 256 ^ r:=by
  rw [BU (gS (by decide)),cG,<-e0]; exact hn
 have h7:(256:Nat) ^ r <= 256 ^ 7:=iK (by decide) (by omega);have h8:256 ^ r*c < 18446744073709551616:=by
  have:256 ^ r*c <= 256 ^ 7*255:=iJ h7 (by omega);omega
 have hxl:n / 18446744073709551616 ^ q%18446744073709551616=n / 18446744073709551616 ^ q:=aV (by omega);have e2:(2:Nat) ^ (8*r)=256 ^ r:=by rw [jK]
 have hor:=yV (i:=8*r) (b:=n / 18446744073709551616 ^ q) (by rw [e2]; exact hx) c;rw [e2] at hor;have hs:256 ^ r*c+n / 18446744073709551616 ^ q < 18446744073709551616:=by
  have:256 ^ r*c+n / 18446744073709551616 ^ q < 256 ^ r*(c+1):=by rw [uW]; omega
  have:256 ^ r*(c+1) <= 256 ^ 7*256:=iJ h7 (by omega);omega
 rw [bS,wG 8 q n hq,fM,aV (by omega:c < 18446744073709551616),Dc _ _ (by omega),e2,cG c,aV h8,hxl,NZ _ _ (by omega) h8,Nat.or_comm,<-hor,Nat.add_comm (256 ^ r*c)];have:=QM 8 q n (256 ^ r*c) hq (by rw [hxl]; omega);rw [hxl] at this;rw [this,e0,d9]
theorem aCf (i:Nat) (hi:i < 64):i64.wrap (((i:Nat):Int).tdiv 8)=((i / 8:Nat):Int) /\ i64.wrap ((8:Int)*((i:Nat):Int).tmod 8)=((8*(i%8):Nat):Int):=by
 have h1:((i:Nat):Int).tdiv 8=((i / 8:Nat):Int):=by rw [rF (by omega)]; omega
 have h2:((i:Nat):Int).tmod 8=((i%8:Nat):Int):=by rw [lM (by omega)]; omega
 rw [h1,h2];exact ⟨bY (by omega) (by omega),by rw [bY (by omega) (by omega)]; omega⟩
theorem aI3 (s:Str) (hl:s.length <= 64) (fu:Nat):∀ (d n i:Nat),i+d=s.length->d < n ->
  eS prog aOi fu aCa (aCb fu) n (some (Vi s (s.length:Int) (i:Int) (cQ 8 0) (cQ 8 (vS (s.take i)))))=some (Mw.enc (vS s,0)):=by
 intro d
 induction d with
 | zero=>
  intro n i hi hn;obtain ⟨n,rfl⟩:=aP (by omega:n ≠ 0);have e:i=s.length:=by omega
  subst e;rw [aF,aOg,aH (by omega),aD,aR,aI0,Ec]; rfl
 | succ d ih=>
  intro n i hi hn;obtain ⟨n,rfl⟩:=aP (by omega:n ≠ 0);have hb:=(s.getD i 0).toNat_lt;have hlt:vS (s.take i) < 256 ^ i:=by
   have:=aOk (s.take i);rwa [dV,Ef (by omega)] at this
  obtain ⟨i1,i2⟩:=aCf i (by omega);have:=ih n (i+1) (by omega) (by omega);rw [aI2 s i (by omega)] at this;rw [aF,aOg,aE (by omega),aB,i1,i2,aE (by omega),aB,aE (by omega),aB,aH (by omega),aD,aB,bE,bE,bY (by omega) (by omega),
   aRP _ _ i (by omega) hlt (by omega)]
  exact this
theorem P6:CallOk prog 38 Mw:=by
 refine aZ (fu:=λ _=>65) aRN Tryz.func38 ?_;intro args t ht;unfold Mw at ht;simp only at ht;split at ht
 ·rename_i s;obtain ⟨h1,h2⟩:=aY ht;have h1:=jN h1;cases h2;refine (aXE ..).trans ?_;by_cases h:64 < s.length
  ·rw [aE (by omega),aB,show Nat.blt 64 s.length=true by rw [dL]; exact h,aB];show _=some (AV.tup [.s (.pl (.agg (.ints .u64 (cQ 8 0)) 8)),.s (.pl (.int .i64 5))]);rw [gN]
  ·rw [aH (by omega),aD,show Nat.blt 64 s.length=false by rw [Bool.eq_false_iff]; intro hc; rw [dL] at hc; exact h hc];have:=aI3 s (by omega) 65 s.length 65 0 (by omega) (by omega);rw [uR,show vS []=0 from rfl,gN] at this;exact this
 ·cases ht
theorem aXH (x i:Nat) (hi:i < 64):u8.wrap (eK .u64 ((cQ 8 x).getD (0+i / 8) 0) ((8*(i%8):Nat):Int))=((dg x i:Nat):Int):=by
 have hr:i%8 < 8:=bK _ (by decide);have hi':i=8*(i / 8)+i%8:=(eO i 8).symm;rw [dg,hi'];generalize i / 8=q at *;generalize i%8=r at *;rw [show (8*q+r) / 8=q by omega,show (8*q+r)%8=r by omega,bS,wG 8 q x (by omega),mV _ _ (by omega),Db,dM,jK,jK,<-gR,show (256:Nat) ^ 8=18446744073709551616 from rfl,show (2:Nat) ^ 8=256 from rfl];generalize x / 18446744073709551616 ^ q=w;have e:(18446744073709551616:Nat)=256 ^ r*(256*256 ^ (7 - r)):=by
  have h8:256 ^ r*(256*256 ^ (7 - r))=256 ^ 8:=by
   rw [<-d9,<-bM,<-dM,show r+1+(7 - r)=8 by omega]
  rw [h8]
 rw [e,Ho,PS]
theorem aI4 (x:Nat) (fu:Nat):∀ (d n i:Nat),i+d=64->d < n ->
  eS prog aOj fu aCd (aCe fu) n (some (Vk 64 64 (i:Int) (cQ 8 x) 64 (lo i x++List.replicate (64 - i) 0)))=some (.str (aSE 64 x)):=by
 intro d
 induction d with
 | zero=>
  intro n i hi hn;obtain ⟨n,rfl⟩:=aP (by omega:n ≠ 0);have e:i=64:=by omega
  subst e;rw [aF,aOh,aH (by omega),aD,aR,aI1,i0,uQ,i8]; rfl
 | succ d ih=>
  intro n i hi hn;obtain ⟨n,rfl⟩:=aP (by omega:n ≠ 0);obtain ⟨i1,i2⟩:=aCf i (by omega);have:=ih n (i+1) (by omega) (by omega);rw [aF,aOh,aE (by omega),aB,i1,i2,aE (by omega),aB,aH (by omega),aD,aE (by omega),aB,bE,bE,bY (by omega) (by omega),aXH x i (by omega),Rx x 64 i (by omega)];exact this
theorem aCg:CallOk prog 233 aC8:=by
 refine aZ (fu:=λ _=>65) aRO Tryz.func233 ?_;intro args t ht;obtain ⟨a,rfl,ha,rfl⟩:=xL (F:=λ a=>aSE 64 (val a)) ht;refine (aXG ..).trans ?_;have:=aI4 (val a) 65 64 65 0 (by omega) (by decide);rw [nK ha] at this;exact this
theorem Kt {s:Str} (h:s.length <= 1099511627776):TU [.str s]=some (cond (Nat.blt 64 s.length) (0,5) (vS s,0)):=by
 show cond (decide (s.length <= 1099511627776)) _ none=_;rw [aE h]; rfl
end
end Go.Eng
