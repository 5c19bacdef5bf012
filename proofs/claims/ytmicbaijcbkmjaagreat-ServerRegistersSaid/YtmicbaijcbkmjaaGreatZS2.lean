import Derived.Test.YtmicbaijcbkmjaaGreatZS1
namespace Go.Eng
open Go.IntKind (u64 i64 u8)
noncomputable section
open Go Go.Proofs
set_option linter.all false
section
variable (T0:Type) (R0:FA T0) (aG:T0->List UInt8) (T1:Type) (R1:FA T1) (aN:T1->List UInt8) (T2:Type) (R2:FA T2) (T3:Type) (R3:FA T3) (T4:Type) (R4:FA T4) (eV:T4->List Int)
def sY:Cg:=⟨⟨dE [(69,⟨R0,λ t=>AV.str (aG t)⟩),(150,⟨R1,λ t=>AV.str (aN t)⟩),(199,⟨R2,λ t=>AV.agg (.ints .u64 (up hN)) 8⟩),(200,⟨R3,λ t=>AV.agg (.ints .u64 (up kN)) 80⟩),(201,⟨R4,λ t=>AV.agg (.ints .u64 (eV t)) 8⟩)],[],dR⟩,[(6,[2,3,4,5],[2,3]),(10,[2,3,6,7],[2,6]),(15,[2,6,8,48],[2,8])]⟩
def G0 (s3:Str) (v4 v5:Int) (aQ:List Int):St:={ tm:=[(2,.s (.ptr 0 0 64)),(3,.str s3),(4,.int .u64 v4),(5,.int .i64 v5)],hp:=[(0,{ ty:=209,n:=64,row:=Row.t (.ints .u8 aQ) })],nx:=1,sz:=65 }
def Mz:Code:=cM (bN [1,1,1,1,0,1,2] (bD Tryz.f179))
def M0 (fu:Nat):=lP prog (sY T0 R0 aG T1 R1 aN T2 R2 T3 R3 T4 R4 eV) fu [1,1,1,1,0,1,2] (bD Tryz.f179) (fT prog Tryz.f179)
abbrev aJO (fu:Nat) (s3:Str) (v4 v5:Int) (aQ:List Int):=eS prog (sY T0 R0 aG T1 R1 aN T2 R2 T3 R3 T4 R4 eV) fu Mz (M0 T0 R0 aG T1 R1 aN T2 R2 T3 R3 T4 R4 eV fu ) fu (some (G0 s3 v4 v5 aQ))
theorem aJP (fu:Nat) (ss:List Str) (n:Nat):bB prog Tryz.f179 (sY T0 R0 aG T1 R1 aN T2 R2 T3 R3 T4 R4 eV) fu [.s (.dat (.strs ss) n 1)]=(R0 [.s (.dat (.strs ss) n 1),.str []]).bind λ t=>(R1 [.str [(0:UInt8)],.int .i64 ((i64.wrap (247 - (↑(aG t).length:Int).tmod 128)).tmod 128)]).bind λ dH=>bif decide (1+(aN dH).length <= 9223372036854775807) then bif decide ((aG t).length+List.length ([(128:UInt8)]++aN dH) <= 9223372036854775807) then aJO T0 R0 aG T1 R1 aN T2 R2 T3 R3 T4 R4 eV fu (aG t++([(128:UInt8)]++aN dH)) (u64.wrap (u64.wrap (↑(aG t).length:Int)*8)) 7 [0,0,0,0,0,0,0,0,0,0,0,0,0,0,0,0,0,0,0,0,0,0,0,0,0,0,0,0,0,0,0,0,0,0,0,0,0,0,0,0,0,0,0,0,0,0,0,0,0,0,0,0,0,0,0,0,0,0,0,0,0,0,0,0] else none else none:=by kernel_rfl
def K6 (s3:Str) (aQ:List Int):St:={ tm:=[(2,.s (.ptr 0 0 64)),(3,.str s3)],hp:=[(0,{ ty:=209,n:=64,row:=Row.t (.ints .u8 aQ) })],nx:=1,sz:=65 }
theorem WM {β:Type} (fu:Nat) (G:FG β) (H:FH β) (s3:Str) (v4 v5:Int) (aQ:List Int):fI prog (sY T0 R0 aG T1 R1 aN T2 R2 T3 R3 T4 R4 eV) fu Mz G H (G0 s3 v4 v5 aQ)=bif decide (0 <= v5) then bif decide (i64.wrap (8*v5) < 0) then none else bif decide (List.length s3+1 <= 9223372036854775807) then G (some (G0 (s3++List.map b8 [u8.wrap (eK .u64 v4 (i64.wrap (8*v5)))]) v4 (i64.wrap (v5 - 1)) aQ)) else none else H (Ex.exit 0) (some (K6 s3 aQ)):=by kernel_rfl
def G4 (s3:Str) (aQ bA cT:List Int):St:={ tm:=[(2,.s (.ptr 0 0 64)),(3,.str s3),(6,.s (.ptr 1 0 8)),(7,.s (.ptr 2 0 80))],hp:=[(0,{ ty:=209,n:=64,row:=Row.t (.ints .u8 aQ) }),(1,{ ty:=225,n:=8,row:=Row.t (.ints .u64 bA) }),(2,{ ty:=227,n:=80,row:=Row.t (.ints .u64 cT) })],nx:=3,sz:=65 }
def M1:Code:=cM (bN [1,1,1,1,1,1,0,2] (bD Tryz.f179))
def M2 (fu:Nat):=lP prog (sY T0 R0 aG T1 R1 aN T2 R2 T3 R3 T4 R4 eV) fu [1,1,1,1,1,1,0,2] (bD Tryz.f179) (fT prog Tryz.f179)
abbrev WN (fu:Nat) (s3:Str) (aQ bA cT:List Int):=eS prog (sY T0 R0 aG T1 R1 aN T2 R2 T3 R3 T4 R4 eV) fu M1 (M2 T0 R0 aG T1 R1 aN T2 R2 T3 R3 T4 R4 eV fu ) fu (some (G4 s3 aQ bA cT))
theorem ZZ (fu:Nat) (s3:Str) (aQ:List Int):M0 T0 R0 aG T1 R1 aN T2 R2 T3 R3 T4 R4 eV fu  (Ex.exit 0) (K6 s3 aQ)=(R2 []).bind λ t=>(R3 []).bind λ t=>WN T0 R0 aG T1 R1 aN T2 R2 T3 R3 T4 R4 eV fu s3 aQ (up hN) (up kN):=by kernel_rfl
def K7 (aQ bA:List Int):St:={ tm:=[(2,.s (.ptr 0 0 64)),(6,.s (.ptr 1 0 8))],hp:=[(0,{ ty:=209,n:=64,row:=Row.t (.ints .u8 aQ) }),(1,{ ty:=225,n:=8,row:=Row.t (.ints .u64 bA) })],nx:=2,sz:=65 }
theorem WO {β:Type} (fu:Nat) (G:FG β) (H:FH β) (s3:Str) (aQ bA cT:List Int):fI prog (sY T0 R0 aG T1 R1 aN T2 R2 T3 R3 T4 R4 eV) fu M1 G H (G4 s3 aQ bA cT)=bif !decide (s3=[]) then bif decide ((0:Int) <= 0 /\ (0:Int) <= 128 /\ 128 <= (↑(List.length s3):Int)) then (R4 [.agg (.ints .u64 bA) 8,.s (.rptr (.ints .u64 cT) 0 80),.str (sl s3 0 128)]).bind λ t=>bif decide ((0:Int) <= 128 /\ 128 <= (↑(List.length s3):Int) /\ (↑(List.length s3):Int) <= (↑(List.length s3):Int)) then G (some (G4 (sl s3 128 (↑(List.length s3):Int)) aQ (eV t) cT)) else none else none else H (Ex.exit 2) (some (K7 aQ bA)):=by kernel_rfl
def G5 (VO:Int) (aQ bA cT:List Int):St:={ tm:=[(2,.s (.ptr 0 0 64)),(6,.s (.ptr 1 0 8)),(8,.s (.ptr 2 0 64)),(48,.int .i64 VO)],hp:=[(0,{ ty:=209,n:=64,row:=Row.t (.ints .u8 aQ) }),(1,{ ty:=225,n:=8,row:=Row.t (.ints .u64 bA) }),(2,{ ty:=209,n:=64,row:=Row.t (.ints .u8 cT) })],nx:=3,sz:=65 }
def M3:Code:=cM (bN [1,1,1,1,1,1,1,1,0,1,2] (bD Tryz.f179))
def M4 (fu:Nat):=lP prog (sY T0 R0 aG T1 R1 aN T2 R2 T3 R3 T4 R4 eV) fu [1,1,1,1,1,1,1,1,0,1,2] (bD Tryz.f179) (fT prog Tryz.f179)
abbrev WP (fu:Nat) (VO:Int) (aQ bA cT:List Int):=eS prog (sY T0 R0 aG T1 R1 aN T2 R2 T3 R3 T4 R4 eV) fu M3 (M4 T0 R0 aG T1 R1 aN T2 R2 T3 R3 T4 R4 eV fu ) fu (some (G5 VO aQ bA cT))
theorem Za (fu:Nat) (aQ bA:List Int):M2 T0 R0 aG T1 R1 aN T2 R2 T3 R3 T4 R4 eV fu  (Ex.exit 2) (K7 aQ bA)=WP T0 R0 aG T1 R1 aN T2 R2 T3 R3 T4 R4 eV fu 0 aQ bA [0,0,0,0,0,0,0,0,0,0,0,0,0,0,0,0,0,0,0,0,0,0,0,0,0,0,0,0,0,0,0,0,0,0,0,0,0,0,0,0,0,0,0,0,0,0,0,0,0,0,0,0,0,0,0,0,0,0,0,0,0,0,0,0]:=by kernel_rfl
def K8 (aQ bA:List Int):St:={ tm:=[(2,.s (.ptr 0 0 64)),(8,.s (.ptr 1 0 64))],hp:=[(0,{ ty:=209,n:=64,row:=Row.t (.ints .u8 aQ) }),(1,{ ty:=209,n:=64,row:=Row.t (.ints .u8 bA) })],nx:=2,sz:=65 }
theorem WQ {β:Type} (fu:Nat) (G:FG β) (H:FH β) (VO:Int) (aQ bA cT:List Int):fI prog (sY T0 R0 aG T1 R1 aN T2 R2 T3 R3 T4 R4 eV) fu M3 G H (G5 VO aQ bA cT)=bif decide (VO < 64) then bif decide (0 <= i64.wrap (VO.tdiv 8) /\ i64.wrap (VO.tdiv 8) < 8) then bif decide (i64.wrap (56 - i64.wrap (8*VO.tmod 8)) < 0) then none else bif decide (0 <= VO /\ VO < 64) then G (some (G5 (i64.wrap (VO+1)) aQ bA (cT.set (0+VO.toNat) (u8.wrap (eK .u64 (bA.getD (0+(i64.wrap (VO.tdiv 8)).toNat) 0) (i64.wrap (56 - i64.wrap (8*VO.tmod 8)))))))) else none else none else H (Ex.exit 4) (some (K8 aQ cT)):=by kernel_rfl
theorem Zb (fu:Nat) (aQ bA:List Int):M4 T0 R0 aG T1 R1 aN T2 R2 T3 R3 T4 R4 eV fu  (Ex.exit 4) (K8 aQ bA)=some (AV.agg (.ints .u8 bA) 64):=by kernel_rfl
end
abbrev DQ:Cg:=sY (List UInt8) Ah (λ t=>t) (List UInt8) sC (λ t=>t) (PUnit) Ck (PUnit) JW (List Nat) JX (λ t=>up t)
theorem aDt:CfOk prog DQ.c:=gk <| aA Ox <| aA Fc <| aA aF0 <| aA aMf <| aA aMi <| aK
abbrev pI:List Int:=[0,0,0,0,0,0,0,0,0,0,0,0,0,0,0,0,0,0,0,0,0,0,0,0,0,0,0,0,0,0,0,0,0,0,0,0,0,0,0,0,0,0,0,0,0,0,0,0,0,0,0,0,0,0,0,0,0,0,0,0,0,0,0,0]
theorem QW (l:List Nat):dn (up l)=l:=by
 rw [dn,up,KD];exact (Au λ n _=>bE n).trans (List.map_id _)
theorem aSO {l:List Nat} (h:∀ x ∈ l,x < 18446744073709551616):qN (up l)=true:=by
 induction l with
 | nil=>rfl
 | cons x r ih=>
  show (decide (0 <= (x:Int) /\ (x:Int) < 18446744073709551616) && qN (up r))=true;have:=h x (by simp);rw [aE (by omega),ih λ y hy=>h y (by simp [hy])]; rfl
theorem aJQ {l:List Nat} (h:ED l):∀ x ∈ l,x < 18446744073709551616:=by
 intro x hx;obtain ⟨i,hi⟩:=PN.1 hx;have:=h i;rw [fU,hi] at this;exact this
theorem aDu {h:List Nat} {b:Str} (hl:h.length=8) (ok:ED h) (hb:b.length=128):JX [.agg (.ints .u64 (up h)) 8,.s (.rptr (.ints .u64 (up kN)) 0 80),.str b]=some (AW h b):=by
 show cond (aFK (up h) && decide (up kN=up kN) && Nat.beq b.length 128) (some (AW (dn (up h)) b)) none=_;have e:aFK (up h)=true:=by rw [aFK,FQ,hl,aSO (aJQ ok)]; rfl
 rw [e,aE rfl,hb,QW]; rfl
theorem aDv (s t:List Nat):∀ i,(FO s t i).length=s.length:=by
 intro i
 induction i with
 | zero=>rfl
 | succ i ih=>rw [FO,Fx,ih]
theorem aJR {s:List Nat} (t:List Nat) (h:ED s):∀ i,ED (FO s t i):=by
 intro i
 induction i with
 | zero=>exact h
 | succ i ih=>exact Xe ih _ (OU _)
theorem Ig (n:Nat):∀ k,(be n k).length=k:=by
 intro k
 induction k with
 | zero=>rfl
 | succ k ih=>rw [be,i9,ih]; rfl
theorem Zc:Ck []=some ():=rfl
theorem aDw:JW []=some ():=rfl
theorem CY (s:Str) (n:Nat) (h:n <= 140737488355328) (h2:s.length*n <= zC):sC [.str s,.int .i64 (n:Int)]=some (Lib.repeatL s n):=by
 show cond (decide (0 <= (n:Int)) && decide ((n:Int) <= 140737488355328) && Nat.ble (s.length*(n:Int).toNat) zC) (some (Lib.repeatL s (n:Int).toNat)) none=_;rw [aE (by omega),aE (by omega),bE,show Nat.ble (s.length*n) zC=true by rw [lC]; exact h2]; rfl
theorem aDx (P:Str) (hP:P.length <= 4398046511104) (m:Nat) (hm:m < 18446744073709551616) (y:List Int) (fu:Nat):∀ (d n k:Nat),k+d=8->d < n ->
  eS prog DQ fu Mz (M0 _ Ah (λ t=>t) _ sC (λ t=>t) _ Ck _ JW _ JX (λ t=>up t) fu) n (some (G0 (P++be m k) (m:Int) (7 - (k:Int)) y)) =
   WN _ Ah (λ t=>t) _ sC (λ t=>t) _ Ck _ JW _ JX (λ t=>up t) fu (P++be m 8) y (up hN) (up kN):=by
 intro d
 induction d with
 | zero=>
  intro n k hk hn;obtain ⟨n,rfl⟩:=aP (by omega:n ≠ 0);have:k=8:=by omega
  subst this;rw [aF,WM,aH (by decide),aD,aR,ZZ,Zc,aC,aDw,aC]
 | succ d ih=>
  intro n k hk hn;obtain ⟨n,rfl⟩:=aP (by omega:n ≠ 0);have h:=ih n (k+1) (by omega) (by omega);have hl:=Ig m k;have hix:i64.wrap ((8:Int)*(7 - (k:Int)))=((8*(7 - k):Nat):Int):=by rw [bY (by omega) (by omega)]; omega
  rw [aF,WM,aE (by omega),aB,hix,aH (by omega),aD,aE (by rw [i9,hl]; omega),aB,mV _ _ (by omega),Db,bY (by omega) (by omega),lN];rw [show (7:Int) - (k:Int) - 1=7 - ((k+1:Nat):Int) by omega];exact h
theorem M5:ED hN:=by
 intro i;by_cases h:i < 8
 ·have:∀ i:Fin 8,hN.getD i.1 0 < 18446744073709551616:=by decide
  exact this ⟨i,h⟩
 ·rw [fU,At (by show 8 <= i; omega)]; decide
theorem K9 {h:List Nat} (b:Str) (hl:h.length=8):(AW h b).length=8:=by rw [AW,aDv,hl]
theorem Ih {h:List Nat} (b:Str) (ok:ED h):ED (AW h b):=aJR _ ok 8
theorem aDy (y:List Int) (fu:Nat):∀ (q n:Nat) (s:Str) (h:List Nat),s.length=128*q->h.length=8->ED h->s.length < 9223372036854775808->q < n ->
  eS prog DQ fu M1 (M2 _ Ah (λ t=>t) _ sC (λ t=>t) _ Ck _ JW _ JX (λ t=>up t) fu) n (some (G4 s y (up h) (up kN))) =
   WP _ Ah (λ t=>t) _ sC (λ t=>t) _ Ck _ JW _ JX (λ t=>up t) fu 0 y (up (AX h q s)) pI:=by
 intro q
 induction q with
 | zero=>
  intro n s h hs hl ok hb hn;obtain ⟨n,rfl⟩:=aP (by omega:n ≠ 0);have:s=[]:=oB (by omega);subst this;rw [aF,WO,aE rfl,jW,aD,aR,Za]; rfl
 | succ q ih=>
  intro n s h hs hl ok hb hn;obtain ⟨n,rfl⟩:=aP (by omega:n ≠ 0);have hne:¬ s=[]:=λ e=>by rw [e] at hs; simp at hs
  have e1:sl s 0 128=s.take 128:=by rw [sl]; rfl
  have e2:sl s 128 (s.length:Int)=s.drop 128:=by
   rw [sl,fB]
   ·rfl
   rw [kX]; show s.length - 128 <= ((s.length:Int) - 128).toNat; omega
  have ht:(s.take 128).length=128:=by rw [dV]; omega
  rw [aF,WO,aH hne,lL,aB,aE (by omega),aB,e1,aDu hl ok ht,aC,aE (by omega),aB,e2];exact ih n (s.drop 128) (AW h (s.take 128)) (by rw [kX]; omega) (K9 _ hl) (Ih _ ok) (by rw [kX]; omega) (by omega)
theorem QX (h:List Nat) (k:Nat):(Cl h k).length=k:=by rw [Cl,iA,List.length_range]
theorem QY (h:List Nat) (i:Nat) (hi:i < 64):(up (Cl h i)++List.replicate (64 - i) 0).set i ((h.getD (i / 8) 0 / 2 ^ (56 - 8*(i%8))%256:Nat):Int)=up (Cl h (i+1))++List.replicate (64 - (i+1)) 0:=by
 have e:up (Cl h (i+1))=up (Cl h i)++[((h.getD (i / 8) 0 / 2 ^ (56 - 8*(i%8))%256:Nat):Int)]:=by
  rw [Cl,List.range_succ,vG,up,vG]; rfl
 have hl:(up (Cl h i)).length=i:=by rw [FQ,QX]
 rw [e,Eb _ _ (by rw [hl]; omega),hl,i0,show 64 - i=64 - (i+1)+1 by omega,Fy,yS,lN]; rfl
theorem aDz (h:List Nat) (ok:ED h) (y:List Int) (fu:Nat):∀ (d n i:Nat),i+d=64->d < n ->
  eS prog DQ fu M3 (M4 _ Ah (λ t=>t) _ sC (λ t=>t) _ Ck _ JW _ JX (λ t=>up t) fu) n (some (G5 (i:Int) y (up h) (up (Cl h i)++List.replicate (64 - i) 0)))=some (.agg (.ints .u8 (up (Cl h 64))) 64):=by
 intro d
 induction d with
 | zero=>
  intro n i hi hn;obtain ⟨n,rfl⟩:=aP (by omega:n ≠ 0);have:i=64:=by omega
  subst this;rw [aF,WQ,aH (by decide),aD,aR,Zb,i0,uQ,i8]
 | succ d ih=>
  intro n i hi hn;obtain ⟨n,rfl⟩:=aP (by omega:n ≠ 0);have h':=ih n (i+1) (by omega) (by omega);have h1:((i:Nat):Int).tdiv 8=((i / 8:Nat):Int):=by rw [rF (by omega)]; omega
  have h2:((i:Nat):Int).tmod 8=((i%8:Nat):Int):=by rw [lM (by omega)]; omega
  have e1:i64.wrap (((i:Nat):Int).tdiv 8)=((i / 8:Nat):Int):=by rw [h1]; exact bY (by omega) (by omega)
  have e2:i64.wrap ((56:Int) - i64.wrap ((8:Int)*((i:Nat):Int).tmod 8))=((56 - 8*(i%8):Nat):Int):=by
   rw [h2,bY (n:=8*((i%8:Nat):Int)) (by omega) (by omega),bY (by omega) (by omega)]; omega
  rw [aF,WQ,aE (by omega),aB,e1,e2,aE (by omega),aB,aH (by omega),aD,aE (by omega),aB,bE,bE,bS,bS,mA,mV _ _ (by omega),Db,bY (by omega) (by omega),QY h i (by omega)];exact h'
theorem LA:∀ (q:Nat) (s:Str) (h:List Nat),ED h->ED (AX h q s):=by
 intro q
 induction q with
 | zero=>intro s h ok; exact ok
 | succ q ih=>intro s h ok; exact ih _ _ (Ih _ ok)
theorem G6 (p:Nat):(Lib.repeatL ([0]:Str) p).length=p:=by rw [Lib.repeatL_length]; simp
theorem DR (t:Str):(D9 t).length=t.length+1+(247 - t.length%128)%128:=by
 rw [D9,i9,i9,G6]; simp; omega
theorem QZ (t:Str):(full t).length=128*((full t).length / 128):=by
 have:(full t).length=t.length+1+(247 - t.length%128)%128+8:=by rw [full,i9,DR,Ig]
 omega
theorem Ii (h:List Nat):up (Cl h 0)++List.replicate (64 - 0) 0=pI:=rfl
theorem aDA {ss:List Str} {n:Nat} (h:CK ss n=true):Ah [.s (.dat (.strs ss) n 1),.str []]=some (Lib.join ss []):=by
 simp only [CK,aX,lC] at h;show cond (Nat.beq n ss.length && Nat.ble ss.length zC && Nat.ble (Lib.join ss []).length zC) (some (Lib.join ss [])) none=_;have a:Nat.ble ss.length zC=true:=by rw [lC]; exact cK h.1.2 (by decide)
 have b:Nat.ble (Lib.join ss []).length zC=true:=by rw [lC]; exact cK h.2 (by decide)
 rw [h.1.1,a,b]; rfl
theorem aSP (ss:List Str) (n:Nat) (h:CK ss n=true) (fu:Nat) (hf:(full (Lib.join ss [])).length+100 < fu) :
  bB prog Tryz.f179 DQ fu [.s (.dat (.strs ss) n 1)]=some (.agg (.ints .u8 (up (OL (Lib.join ss [])))) 64):=by
 refine (aJP ..).trans ?_;rw [aDA h,aC];simp only [CK,aX,lC] at h;have hb:=h.2;generalize Lib.join ss []=t at hb hf ⊢;have hp:(i64.wrap ((247:Int) - ((t.length:Nat):Int).tmod 128)).tmod 128=(((247 - t.length%128)%128:Nat):Int):=by
  have h2:((t.length:Nat):Int).tmod 128=((t.length%128:Nat):Int):=by rw [lM (by omega)]; omega
  rw [h2,bY (by omega) (by omega),show (247:Int) - ((t.length%128:Nat):Int)=((247 - t.length%128:Nat):Int) by omega,lM (by omega)]; omega
 have hr:=G6 ((247 - t.length%128)%128);rw [hp,CY _ _ (by omega) (cK (show 1*((247 - t.length%128)%128) <= 128 by omega) (by decide)),aC,aE (by omega),aB,aE (by rw [i9,hr]; show t.length+(1+_) <= _; omega),aB];have hw:u64.wrap (u64.wrap ((t.length:Nat):Int)*8)=((t.length*8:Nat):Int):=by
  rw [fM,aV (by omega),show ((t.length:Nat):Int)*8=((t.length*8:Nat):Int) by omega,fM,aV (by omega)]
 rw [hw];have hl:=DR t;have a:=aDx (D9 t) (by omega) (t.length*8) (by omega) pI fu 8 fu 0 (by omega) (by omega);have fl:=QZ t;have b:=aDy pI fu ((full t).length / 128) fu (full t) hN fl rfl M5 (by rw [full,i9,Ig]; omega) (by omega);have c:=aDz (AX hN ((full t).length / 128) (full t)) (LA _ _ _ M5) pI fu 64 fu 0 (by omega) (by omega);rw [Ii] at c;rw [show D9 t++be (t.length*8) 0=D9 t from i8 _] at a;exact iR a (iR b c)
theorem TX:CallOk prog 179 aFM:=by
 refine aZ (fu:=λ args=>match args with | [.c (.s (.dat (.strs ss) n 1))]=>(full (Lib.join ss [])).length+101 | _=>0) aDt Tryz.func179 ?_;intro args t ht;unfold aFM at ht;simp only at ht;split at ht
 ·rename_i ss n;obtain ⟨h1,h2⟩:=cC ht;subst h2;exact aSP ss n h1 _ (lD _)
 ·cases ht
def aDB:Summ where
 T:=Str
 run:=λ
  | [.c (.s (.pl (.agg (.ints .u8 a) 64)))]=>cond (Nat.beq a.length 64) (some (a.map b8)) none
  | _=>none
 enc:=λ t=>.str t
def aDC:FA Str:=aDB.run
section
variable (T0:Type) (R0:FA T0) (aG:T0->List Int)
end
section
variable (T0:Type) (R0:FA T0) (T1:Type) (R1:FA T1) (aN:T1->Int)
def dZ:Cg:=⟨⟨dE [(238,⟨R0,λ t=>AV.s (.dat (.ints .u64 (up kN)) (80) 1)⟩),(239,⟨R1,λ t=>AV.int .u64 (aN t)⟩)],[26,53],dR⟩,[(5,[2,3,4],[2,3,4]),(8,[2,3,4,5],[2,3]),(14,[2,3,6,7,8],[2,6]),(18,[2,3,6,7,8,9,10],[2,3,6,7,8,9]),(21,[2,3,6,7,8,9,10,11],[2,3,6,7,8,9,10]),(25,[2,3,6,7,8,9,12],[2,3,6,7,8,9]),(32,[2,3,6,7,8,9,15,16],[2,3,6,7,8,15]),(41,[2,3,6,7,8,15,22],[2,3,6,7,8]),(46,[2,6,23,24],[2,23])]⟩
def G7 (n3:Nat) (v4:Int) (aQ:List Int) (dP:Nat) (bA:List Int):St:={ tm:=[(2,.s (.ptr 0 0 64)),(3,.s (.own 1 n3 1)),(4,.int .u64 v4)],hp:=[(0,{ ty:=209,n:=64,row:=Row.t (.ints .u8 aQ) }),(1,{ ty:=5,n:=dP,row:=Row.t (.ints .u8 bA) })],nx:=2,sz:=327 }
def M6:Code:=cM (bN [1,1,1,1,0,2] (bD Tryz.f231))
def M7 (fu:Nat):=lP prog (dZ T0 R0 T1 R1 aN) fu [1,1,1,1,0,2] (bD Tryz.f231) (fT prog Tryz.f231)
abbrev aJS (fu:Nat) (n3:Nat) (v4:Int) (aQ:List Int) (dP:Nat) (bA:List Int):=eS prog (dZ T0 R0 T1 R1 aN) fu M6 (M7 T0 R0 T1 R1 aN fu ) fu (some (G7 n3 v4 aQ dP bA))
theorem aJT (fu:Nat) (s:Str):bB prog Tryz.f231 (dZ T0 R0 T1 R1 aN) fu [.str s]=bif decide (List.length s <= 1099511627776) then bif decide (List.length s+1 <= 1099511627776) then aJS T0 R0 T1 R1 aN fu (List.length s+1) (u64.wrap (u64.wrap (↑(List.length s):Int)*8)) [0,0,0,0,0,0,0,0,0,0,0,0,0,0,0,0,0,0,0,0,0,0,0,0,0,0,0,0,0,0,0,0,0,0,0,0,0,0,0,0,0,0,0,0,0,0,0,0,0,0,0,0,0,0,0,0,0,0,0,0,0,0,0,0] ((List.length s+1)*1) (List.map lO s++[128]) else none else none:=by kernel_rfl
def LB (n3:Nat) (v4:Int) (aQ:List Int) (dP:Nat) (bA:List Int):St:={ tm:=[(2,.s (.ptr 0 0 64)),(3,.s (.own 1 n3 1)),(4,.int .u64 v4)],hp:=[(0,{ ty:=209,n:=64,row:=Row.t (.ints .u8 aQ) }),(1,{ ty:=5,n:=dP,row:=Row.t (.ints .u8 bA) })],nx:=2,sz:=327 }
theorem WR {β:Type} (fu:Nat) (G:FG β) (H:FH β) (n3:Nat) (v4:Int) (aQ:List Int) (dP:Nat) (bA:List Int):fI prog (dZ T0 R0 T1 R1 aN) fu M6 G H (G7 n3 v4 aQ dP bA)=bif !decide ((n3:Int).tmod (128:Int)=120) then bif decide (n3+1 <= 1099511627776) then G (some (G7 (n3+1) v4 aQ ((n3+1)*1) (bA++[0]))) else none else H (Ex.exit 0) (some (LB n3 v4 aQ dP bA)):=by kernel_rfl
def G8 (n3:Nat) (v4 v5:Int) (aQ:List Int) (dP:Nat) (bA:List Int):St:={ tm:=[(2,.s (.ptr 0 0 64)),(3,.s (.own 1 n3 1)),(4,.int .u64 v4),(5,.int .i64 v5)],hp:=[(0,{ ty:=209,n:=64,row:=Row.t (.ints .u8 aQ) }),(1,{ ty:=5,n:=dP,row:=Row.t (.ints .u8 bA) })],nx:=2,sz:=327 }
def M8:Code:=cM (bN [1,1,1,1,1,0,1,2] (bD Tryz.f231))
def M9 (fu:Nat):=lP prog (dZ T0 R0 T1 R1 aN) fu [1,1,1,1,1,0,1,2] (bD Tryz.f231) (fT prog Tryz.f231)
abbrev WS (fu:Nat) (n3:Nat) (v4 v5:Int) (aQ:List Int) (dP:Nat) (bA:List Int):=eS prog (dZ T0 R0 T1 R1 aN) fu M8 (M9 T0 R0 T1 R1 aN fu ) fu (some (G8 n3 v4 v5 aQ dP bA))
theorem Zd (fu:Nat) (n3:Nat) (v4:Int) (aQ:List Int) (dP:Nat) (bA:List Int):M7 T0 R0 T1 R1 aN fu  (Ex.exit 0) (LB n3 v4 aQ dP bA)=WS T0 R0 T1 R1 aN fu n3 v4 7 aQ dP bA:=by kernel_rfl
def LC (n3:Nat) (aQ:List Int) (dP:Nat) (bA:List Int):St:={ tm:=[(2,.s (.ptr 0 0 64)),(3,.s (.own 1 n3 1))],hp:=[(0,{ ty:=209,n:=64,row:=Row.t (.ints .u8 aQ) }),(1,{ ty:=5,n:=dP,row:=Row.t (.ints .u8 bA) })],nx:=2,sz:=327 }
theorem WT {β:Type} (fu:Nat) (G:FG β) (H:FH β) (n3:Nat) (v4 v5:Int) (aQ:List Int) (dP:Nat) (bA:List Int):fI prog (dZ T0 R0 T1 R1 aN) fu M8 G H (G8 n3 v4 v5 aQ dP bA)=bif decide (0 <= v5) then bif decide (i64.wrap (8*v5) < 0) then none else bif decide (n3+1 <= 1099511627776) then G (some (G8 (n3+1) v4 (i64.wrap (v5 - 1)) aQ ((n3+1)*1) (bA++[u8.wrap (eK .u64 v4 (i64.wrap (8*v5)))]))) else none else H (Ex.exit 2) (some (LC n3 aQ dP bA)):=by kernel_rfl
def DS (n3 n6:Nat) (x7:List Int) (n7:Nat) (v8:Int) (aQ:List Int) (dP:Nat) (bA:List Int) (iM:Nat) (cT:List Int):St:={ tm:=[(2,.s (.ptr 0 0 64)),(3,.s (.own 1 n3 1)),(6,.s (.own 2 n6 1)),(7,.s (.dat (.ints .u64 x7) n7 1)),(8,.int .i64 v8)],hp:=[(0,{ ty:=209,n:=64,row:=Row.t (.ints .u8 aQ) }),(1,{ ty:=5,n:=dP,row:=Row.t (.ints .u8 bA) }),(2,{ ty:=30,n:=iM,row:=Row.t (.ints .u64 cT) })],nx:=3,sz:=327 }
def jG:Code:=cM (bN [1,1,1,1,1,1,1,1,0,1,2] (bD Tryz.f231))
def nF (fu:Nat):=lP prog (dZ T0 R0 T1 R1 aN) fu [1,1,1,1,1,1,1,1,0,1,2] (bD Tryz.f231) (fT prog Tryz.f231)
abbrev WU (fu:Nat) (n3 n6:Nat) (x7:List Int) (n7:Nat) (v8:Int) (aQ:List Int) (dP:Nat) (bA:List Int) (iM:Nat) (cT:List Int):=eS prog (dZ T0 R0 T1 R1 aN) fu jG (nF T0 R0 T1 R1 aN fu ) fu (some (DS n3 n6 x7 n7 v8 aQ dP bA iM cT))
theorem Ze (fu:Nat) (n3:Nat) (aQ:List Int) (dP:Nat) (bA:List Int):M9 T0 R0 T1 R1 aN fu  (Ex.exit 2) (LC n3 aQ dP bA)=(R0 []).bind λ t=>WU T0 R0 T1 R1 aN fu n3 8 (up kN) 80 0 aQ dP bA 8 ([7640891576956012808]++([13503953896175478587]++([4354685564936845355]++([11912009170470909681]++([5840696475078001361]++([11170449401992604703]++([2270897969802886507]++[6620516959819538809]))))))):=by kernel_rfl
def DT (n3 n6:Nat) (x7:List Int) (n7:Nat) (v8:Int) (n9:Nat) (fP:Int) (aQ:List Int) (dP:Nat) (bA:List Int) (iM:Nat) (cT:List Int) (tT:Nat) (gI:List Int):St:={ tm:=[(2,.s (.ptr 0 0 64)),(3,.s (.own 1 n3 1)),(6,.s (.own 2 n6 1)),(7,.s (.dat (.ints .u64 x7) n7 1)),(8,.int .i64 v8),(9,.s (.own 3 n9 1)),(10,.int .i64 fP)],hp:=[(0,{ ty:=209,n:=64,row:=Row.t (.ints .u8 aQ) }),(1,{ ty:=5,n:=dP,row:=Row.t (.ints .u8 bA) }),(2,{ ty:=30,n:=iM,row:=Row.t (.ints .u64 cT) }),(3,{ ty:=30,n:=tT,row:=Row.t (.ints .u64 gI) })],nx:=4,sz:=327 }
def A5:Code:=cM (bN [1,1,1,1,1,1,1,1,0,1,2,6,1,0,2,1,0,1,2] (bD Tryz.f231))
def DU {β:Type} (fu:Nat) (G:FG β) (H:FH β):=lP prog (dZ T0 R0 T1 R1 aN) fu [1,0,2,1,0,1,2] jG (vE (dZ T0 R0 T1 R1 aN) jG G H)
abbrev aJU {β:Type} (fu:Nat) (G:FG β) (H:FH β) (n3 n6:Nat) (x7:List Int) (n7:Nat) (v8:Int) (n9:Nat) (fP:Int) (aQ:List Int) (dP:Nat) (bA:List Int) (iM:Nat) (cT:List Int) (tT:Nat) (gI:List Int):=eS prog (dZ T0 R0 T1 R1 aN) fu A5 (DU T0 R0 T1 R1 aN fu G H) fu (some (DT n3 n6 x7 n7 v8 n9 fP aQ dP bA iM cT tT gI))
def LD (n6:Nat) (aQ:List Int) (dP:Nat) (bA:List Int):St:={ tm:=[(2,.s (.ptr 0 0 64)),(6,.s (.own 1 n6 1))],hp:=[(0,{ ty:=209,n:=64,row:=Row.t (.ints .u8 aQ) }),(1,{ ty:=30,n:=dP,row:=Row.t (.ints .u64 bA) })],nx:=2,sz:=327 }
theorem WV {β:Type} (fu:Nat) (G:FG β) (H:FH β) (n3 n6:Nat) (x7:List Int) (n7:Nat) (v8:Int) (aQ:List Int) (dP:Nat) (bA:List Int) (iM:Nat) (cT:List Int):fI prog (dZ T0 R0 T1 R1 aN) fu jG G H (DS n3 n6 x7 n7 v8 aQ dP bA iM cT)=bif decide (v8 < (n3:Int)) then aJU T0 R0 T1 R1 aN fu G H n3 n6 x7 n7 v8 80 0 aQ dP bA iM cT 80 (List.replicate 80 0) else H (Ex.exit 4) (some (LD n6 aQ iM cT)):=by kernel_rfl
def G9 (n3 n6:Nat) (x7:List Int) (n7:Nat) (v8:Int) (n9:Nat) (fP gF:Int) (aQ:List Int) (dP:Nat) (bA:List Int) (iM:Nat) (cT:List Int) (tT:Nat) (gI:List Int):St:={ tm:=[(2,.s (.ptr 0 0 64)),(3,.s (.own 1 n3 1)),(6,.s (.own 2 n6 1)),(7,.s (.dat (.ints .u64 x7) n7 1)),(8,.int .i64 v8),(9,.s (.own 3 n9 1)),(10,.int .i64 fP),(11,.int .i64 gF)],hp:=[(0,{ ty:=209,n:=64,row:=Row.t (.ints .u8 aQ) }),(1,{ ty:=5,n:=dP,row:=Row.t (.ints .u8 bA) }),(2,{ ty:=30,n:=iM,row:=Row.t (.ints .u64 cT) }),(3,{ ty:=30,n:=tT,row:=Row.t (.ints .u64 gI) })],nx:=4,sz:=327 }
def NA:Code:=cM (bN [1,1,1,1,1,1,1,1,0,1,2,6,1,0,2,1,0,1,2,6,1,0,2,1,2] (bD Tryz.f231))
def NB {β:Type} (fu:Nat) (G:FG β) (H:FH β):=lP prog (dZ T0 R0 T1 R1 aN) fu [1,0,2,1,2] A5 (vE (dZ T0 R0 T1 R1 aN) A5 G H)
abbrev aJV {β:Type} (fu:Nat) (G:FG β) (H:FH β) (n3 n6:Nat) (x7:List Int) (n7:Nat) (v8:Int) (n9:Nat) (fP gF:Int) (aQ:List Int) (dP:Nat) (bA:List Int) (iM:Nat) (cT:List Int) (tT:Nat) (gI:List Int):=eS prog (dZ T0 R0 T1 R1 aN) fu NA (NB T0 R0 T1 R1 aN fu G H) fu (some (G9 n3 n6 x7 n7 v8 n9 fP gF aQ dP bA iM cT tT gI))
def LE (n3 n6:Nat) (x7:List Int) (n7:Nat) (v8:Int) (n9:Nat) (aQ:List Int) (dP:Nat) (bA:List Int) (iM:Nat) (cT:List Int) (tT:Nat) (gI:List Int):St:={ tm:=[(2,.s (.ptr 0 0 64)),(3,.s (.own 1 n3 1)),(6,.s (.own 2 n6 1)),(7,.s (.dat (.ints .u64 x7) n7 1)),(8,.int .i64 v8),(9,.s (.own 3 n9 1))],hp:=[(0,{ ty:=209,n:=64,row:=Row.t (.ints .u8 aQ) }),(1,{ ty:=5,n:=dP,row:=Row.t (.ints .u8 bA) }),(2,{ ty:=30,n:=iM,row:=Row.t (.ints .u64 cT) }),(3,{ ty:=30,n:=tT,row:=Row.t (.ints .u64 gI) })],nx:=4,sz:=327 }
theorem WW {β:Type} (fu:Nat) (G:FG β) (H:FH β) (n3 n6:Nat) (x7:List Int) (n7:Nat) (v8:Int) (n9:Nat) (fP:Int) (aQ:List Int) (dP:Nat) (bA:List Int) (iM:Nat) (cT:List Int) (tT:Nat) (gI:List Int):fI prog (dZ T0 R0 T1 R1 aN) fu A5 G H (DT n3 n6 x7 n7 v8 n9 fP aQ dP bA iM cT tT gI)=bif decide (fP < 16) then aJV T0 R0 T1 R1 aN fu G H n3 n6 x7 n7 v8 n9 fP 0 aQ dP bA iM cT tT gI else H (Ex.exit 6) (some (LE n3 n6 x7 n7 v8 n9 aQ dP bA iM cT tT gI)):=by kernel_rfl
def HA (n6:Nat) (Sk:Int) (aQ:List Int) (dP:Nat) (bA cT:List Int):St:={ tm:=[(2,.s (.ptr 0 0 64)),(6,.s (.own 1 n6 1)),(23,.s (.ptr 2 0 64)),(24,.int .i64 Sk)],hp:=[(0,{ ty:=209,n:=64,row:=Row.t (.ints .u8 aQ) }),(1,{ ty:=30,n:=dP,row:=Row.t (.ints .u64 bA) }),(2,{ ty:=209,n:=64,row:=Row.t (.ints .u8 cT) })],nx:=3,sz:=327 }
def NC:Code:=cM (bN [1,1,1,1,1,1,1,1,1,1,0,1,2] (bD Tryz.f231))
def ND (fu:Nat):=lP prog (dZ T0 R0 T1 R1 aN) fu [1,1,1,1,1,1,1,1,1,1,0,1,2] (bD Tryz.f231) (fT prog Tryz.f231)
abbrev WX (fu:Nat) (n6:Nat) (Sk:Int) (aQ:List Int) (dP:Nat) (bA cT:List Int):=eS prog (dZ T0 R0 T1 R1 aN) fu NC (ND T0 R0 T1 R1 aN fu ) fu (some (HA n6 Sk aQ dP bA cT))
theorem Zf (fu:Nat) (n6:Nat) (aQ:List Int) (dP:Nat) (bA:List Int):nF T0 R0 T1 R1 aN fu  (Ex.exit 4) (LD n6 aQ dP bA)=WX T0 R0 T1 R1 aN fu n6 0 aQ dP bA [0,0,0,0,0,0,0,0,0,0,0,0,0,0,0,0,0,0,0,0,0,0,0,0,0,0,0,0,0,0,0,0,0,0,0,0,0,0,0,0,0,0,0,0,0,0,0,0,0,0,0,0,0,0,0,0,0,0,0,0,0,0,0,0]:=by kernel_rfl
def LF (n3 n6:Nat) (x7:List Int) (n7:Nat) (v8:Int) (n9:Nat) (fP:Int) (aQ:List Int) (dP:Nat) (bA:List Int) (iM:Nat) (cT:List Int) (tT:Nat) (gI:List Int):St:={ tm:=[(2,.s (.ptr 0 0 64)),(3,.s (.own 1 n3 1)),(6,.s (.own 2 n6 1)),(7,.s (.dat (.ints .u64 x7) n7 1)),(8,.int .i64 v8),(9,.s (.own 3 n9 1)),(10,.int .i64 fP)],hp:=[(0,{ ty:=209,n:=64,row:=Row.t (.ints .u8 aQ) }),(1,{ ty:=5,n:=dP,row:=Row.t (.ints .u8 bA) }),(2,{ ty:=30,n:=iM,row:=Row.t (.ints .u64 cT) }),(3,{ ty:=30,n:=tT,row:=Row.t (.ints .u64 gI) })],nx:=4,sz:=327 }
theorem WY {β:Type} (fu:Nat) (G:FG β) (H:FH β) (n3 n6:Nat) (x7:List Int) (n7:Nat) (v8:Int) (n9:Nat) (fP gF:Int) (aQ:List Int) (dP:Nat) (bA:List Int) (iM:Nat) (cT:List Int) (tT:Nat) (gI:List Int):fI prog (dZ T0 R0 T1 R1 aN) fu NA G H (G9 n3 n6 x7 n7 v8 n9 fP gF aQ dP bA iM cT tT gI)=bif decide (gF < 8) then bif decide (0 <= fP /\ fP < (n9:Int)) then bif decide (0 <= i64.wrap (i64.wrap (v8+i64.wrap (8*fP))+gF) /\ i64.wrap (i64.wrap (v8+i64.wrap (8*fP))+gF) < (n3:Int)) then bif decide (0 <= fP /\ fP < (n9:Int)) then G (some (G9 n3 n6 x7 n7 v8 n9 fP (i64.wrap (gF+1)) aQ dP bA iM cT tT (gI.set fP.toNat (u64.wrap (u64.wrap (gI.getD fP.toNat 0*256)+u64.wrap (bA.getD (i64.wrap (i64.wrap (v8+i64.wrap (8*fP))+gF)).toNat 0)))))) else none else none else none else H (Ex.exit 8) (some (LF n3 n6 x7 n7 v8 n9 fP aQ dP bA iM cT tT gI)):=by kernel_rfl
def HB (n3 n6:Nat) (x7:List Int) (n7:Nat) (v8:Int) (n9:Nat) (gU:Int) (aQ:List Int) (dP:Nat) (bA:List Int) (iM:Nat) (cT:List Int) (tT:Nat) (gI:List Int):St:={ tm:=[(2,.s (.ptr 0 0 64)),(3,.s (.own 1 n3 1)),(6,.s (.own 2 n6 1)),(7,.s (.dat (.ints .u64 x7) n7 1)),(8,.int .i64 v8),(9,.s (.own 3 n9 1)),(12,.int .i64 gU)],hp:=[(0,{ ty:=209,n:=64,row:=Row.t (.ints .u8 aQ) }),(1,{ ty:=5,n:=dP,row:=Row.t (.ints .u8 bA) }),(2,{ ty:=30,n:=iM,row:=Row.t (.ints .u64 cT) }),(3,{ ty:=30,n:=tT,row:=Row.t (.ints .u64 gI) })],nx:=4,sz:=327 }
def NE:Code:=cM (bN [1,1,1,1,1,1,1,1,0,1,2,6,1,0,2,1,1,0,1,2] (bD Tryz.f231))
def NF {β:Type} (fu:Nat) (G:FG β) (H:FH β):=lP prog (dZ T0 R0 T1 R1 aN) fu [1,0,2,1,1,0,1,2] jG (vE (dZ T0 R0 T1 R1 aN) jG G H)
abbrev WZ {β:Type} (fu:Nat) (G:FG β) (H:FH β) (n3 n6:Nat) (x7:List Int) (n7:Nat) (v8:Int) (n9:Nat) (gU:Int) (aQ:List Int) (dP:Nat) (bA:List Int) (iM:Nat) (cT:List Int) (tT:Nat) (gI:List Int):=eS prog (dZ T0 R0 T1 R1 aN) fu NE (NF T0 R0 T1 R1 aN fu G H) fu (some (HB n3 n6 x7 n7 v8 n9 gU aQ dP bA iM cT tT gI))
theorem Zg {β:Type} (fu:Nat) (G:FG β) (H:FH β) (n3 n6:Nat) (x7:List Int) (n7:Nat) (v8:Int) (n9:Nat) (aQ:List Int) (dP:Nat) (bA:List Int) (iM:Nat) (cT:List Int) (tT:Nat) (gI:List Int):DU T0 R0 T1 R1 aN fu G H (Ex.exit 6) (LE n3 n6 x7 n7 v8 n9 aQ dP bA iM cT tT gI)=WZ T0 R0 T1 R1 aN fu G H n3 n6 x7 n7 v8 n9 16 aQ dP bA iM cT tT gI:=by kernel_rfl
def Ij (aQ bA:List Int):St:={ tm:=[(2,.s (.ptr 0 0 64)),(23,.s (.ptr 1 0 64))],hp:=[(0,{ ty:=209,n:=64,row:=Row.t (.ints .u8 aQ) }),(1,{ ty:=209,n:=64,row:=Row.t (.ints .u8 bA) })],nx:=2,sz:=327 }
theorem Wa {β:Type} (fu:Nat) (G:FG β) (H:FH β) (n6:Nat) (Sk:Int) (aQ:List Int) (dP:Nat) (bA cT:List Int):fI prog (dZ T0 R0 T1 R1 aN) fu NC G H (HA n6 Sk aQ dP bA cT)=bif decide (Sk < 64) then bif decide (0 <= i64.wrap (Sk.tdiv 8) /\ i64.wrap (Sk.tdiv 8) < (n6:Int)) then bif decide (i64.wrap (56 - i64.wrap (8*Sk.tmod 8)) < 0) then none else bif decide (0 <= Sk /\ Sk < 64) then G (some (HA n6 (i64.wrap (Sk+1)) aQ dP bA (cT.set (0+Sk.toNat) (u8.wrap (eK .u64 (bA.getD (i64.wrap (Sk.tdiv 8)).toNat 0) (i64.wrap (56 - i64.wrap (8*Sk.tmod 8)))))))) else none else none else H (Ex.exit 16) (some (Ij aQ cT)):=by kernel_rfl
theorem Zh {β:Type} (fu:Nat) (G:FG β) (H:FH β) (n3 n6:Nat) (x7:List Int) (n7:Nat) (v8:Int) (n9:Nat) (fP:Int) (aQ:List Int) (dP:Nat) (bA:List Int) (iM:Nat) (cT:List Int) (tT:Nat) (gI:List Int):NB T0 R0 T1 R1 aN fu G H (Ex.exit 8) (LF n3 n6 x7 n7 v8 n9 fP aQ dP bA iM cT tT gI)=G (some (DT n3 n6 x7 n7 v8 n9 (i64.wrap (fP+1)) aQ dP bA iM cT tT gI)):=by kernel_rfl
def Ik (n3 n6:Nat) (x7:List Int) (n7:Nat) (v8:Int) (n9:Nat) (aQ:List Int) (dP:Nat) (bA:List Int) (iM:Nat) (cT:List Int) (tT:Nat) (gI:List Int):St:={ tm:=[(2,.s (.ptr 0 0 64)),(3,.s (.own 1 n3 1)),(6,.s (.own 2 n6 1)),(7,.s (.dat (.ints .u64 x7) n7 1)),(8,.int .i64 v8),(9,.s (.own 3 n9 1))],hp:=[(0,{ ty:=209,n:=64,row:=Row.t (.ints .u8 aQ) }),(1,{ ty:=5,n:=dP,row:=Row.t (.ints .u8 bA) }),(2,{ ty:=30,n:=iM,row:=Row.t (.ints .u64 cT) }),(3,{ ty:=30,n:=tT,row:=Row.t (.ints .u64 gI) })],nx:=4,sz:=327 }
theorem Wb {β:Type} (fu:Nat) (G:FG β) (H:FH β) (n3 n6:Nat) (x7:List Int) (n7:Nat) (v8:Int) (n9:Nat) (gU:Int) (aQ:List Int) (dP:Nat) (bA:List Int) (iM:Nat) (cT:List Int) (tT:Nat) (gI:List Int):fI prog (dZ T0 R0 T1 R1 aN) fu NE G H (HB n3 n6 x7 n7 v8 n9 gU aQ dP bA iM cT tT gI)=bif decide (gU < 80) then bif decide (0 <= i64.wrap (gU - 15) /\ i64.wrap (gU - 15) < (n9:Int)) then (R1 [.int .u64 (gI.getD (i64.wrap (gU - 15)).toNat 0),.int .i64 1]).bind λ t=>bif decide (0 <= i64.wrap (gU - 15) /\ i64.wrap (gU - 15) < (n9:Int)) then (R1 [.int .u64 (gI.getD (i64.wrap (gU - 15)).toNat 0),.int .i64 8]).bind λ dH=>bif decide (0 <= i64.wrap (gU - 15) /\ i64.wrap (gU - 15) < (n9:Int)) then bif decide (0 <= i64.wrap (gU - 2) /\ i64.wrap (gU - 2) < (n9:Int)) then (R1 [.int .u64 (gI.getD (i64.wrap (gU - 2)).toNat 0),.int .i64 19]).bind λ eU=>bif decide (0 <= i64.wrap (gU - 2) /\ i64.wrap (gU - 2) < (n9:Int)) then (R1 [.int .u64 (gI.getD (i64.wrap (gU - 2)).toNat 0),.int .i64 61]).bind λ gE=>bif decide (0 <= i64.wrap (gU - 2) /\ i64.wrap (gU - 2) < (n9:Int)) then bif decide (0 <= i64.wrap (gU - 16) /\ i64.wrap (gU - 16) < (n9:Int)) then bif decide (0 <= i64.wrap (gU - 7) /\ i64.wrap (gU - 7) < (n9:Int)) then bif decide (0 <= gU /\ gU < (n9:Int)) then G (some (HB n3 n6 x7 n7 v8 n9 (i64.wrap (gU+1)) aQ dP bA iM cT tT (gI.set gU.toNat (u64.wrap (u64.wrap (u64.wrap (gI.getD (i64.wrap (gU - 16)).toNat 0+fL .u64 (fL .u64 (aN t) (aN dH)) (eK .u64 (gI.getD (i64.wrap (gU - 15)).toNat 0) 7))+gI.getD (i64.wrap (gU - 7)).toNat 0)+fL .u64 (fL .u64 (aN eU) (aN gE)) (eK .u64 (gI.getD (i64.wrap (gU - 2)).toNat 0) 6)))))) else none else none else none else none else none else none else none else none else none else H (Ex.exit 10) (some (Ik n3 n6 x7 n7 v8 n9 aQ dP bA iM cT tT gI)):=by kernel_rfl
theorem TY (fu:Nat) (aQ bA:List Int):ND T0 R0 T1 R1 aN fu  (Ex.exit 16) (Ij aQ bA)=some (AV.agg (.ints .u8 bA) 64):=by kernel_rfl
def HC (n3 n6:Nat) (x7:List Int) (n7:Nat) (v8:Int) (n9:Nat) (x15:List Int) (n15:Nat) (B1:Int) (aQ:List Int) (dP:Nat) (bA:List Int) (iM:Nat) (cT:List Int) (tT:Nat) (gI:List Int):St:={ tm:=[(2,.s (.ptr 0 0 64)),(3,.s (.own 1 n3 1)),(6,.s (.own 2 n6 1)),(7,.s (.dat (.ints .u64 x7) n7 1)),(8,.int .i64 v8),(9,.s (.own 3 n9 1)),(15,.s (.dat (.ints .u64 x15) n15 1)),(16,.int .i64 B1)],hp:=[(0,{ ty:=209,n:=64,row:=Row.t (.ints .u8 aQ) }),(1,{ ty:=5,n:=dP,row:=Row.t (.ints .u8 bA) }),(2,{ ty:=30,n:=iM,row:=Row.t (.ints .u64 cT) }),(3,{ ty:=30,n:=tT,row:=Row.t (.ints .u64 gI) })],nx:=4,sz:=327 }
def NG:Code:=cM (bN [1,1,1,1,1,1,1,1,0,1,2,6,1,0,2,1,1,1,1,0,1,2] (bD Tryz.f231))
def NH {β:Type} (fu:Nat) (G:FG β) (H:FH β):=lP prog (dZ T0 R0 T1 R1 aN) fu [1,0,2,1,1,1,1,0,1,2] jG (vE (dZ T0 R0 T1 R1 aN) jG G H)
abbrev Wc {β:Type} (fu:Nat) (G:FG β) (H:FH β) (n3 n6:Nat) (x7:List Int) (n7:Nat) (v8:Int) (n9:Nat) (x15:List Int) (n15:Nat) (B1:Int) (aQ:List Int) (dP:Nat) (bA:List Int) (iM:Nat) (cT:List Int) (tT:Nat) (gI:List Int):=eS prog (dZ T0 R0 T1 R1 aN) fu NG (NH T0 R0 T1 R1 aN fu G H) fu (some (HC n3 n6 x7 n7 v8 n9 x15 n15 B1 aQ dP bA iM cT tT gI))
theorem TZ {β:Type} (fu:Nat) (G:FG β) (H:FH β) (n3 n6:Nat) (x7:List Int) (n7:Nat) (v8:Int) (n9:Nat) (aQ:List Int) (dP:Nat) (bA:List Int) (iM:Nat) (cT:List Int) (tT:Nat) (gI:List Int):NF T0 R0 T1 R1 aN fu G H (Ex.exit 10) (Ik n3 n6 x7 n7 v8 n9 aQ dP bA iM cT tT gI)=bif decide ((0:Int) <= 0 /\ 0 < (n6:Int)) then bif decide ((0:Int) <= 1 /\ 1 < (n6:Int)) then bif decide ((0:Int) <= 2 /\ 2 < (n6:Int)) then bif decide ((0:Int) <= 3 /\ 3 < (n6:Int)) then bif decide ((0:Int) <= 4 /\ 4 < (n6:Int)) then bif decide ((0:Int) <= 5 /\ 5 < (n6:Int)) then bif decide ((0:Int) <= 6 /\ 6 < (n6:Int)) then bif decide ((0:Int) <= 7 /\ 7 < (n6:Int)) then Wc T0 R0 T1 R1 aN fu G H n3 n6 x7 n7 v8 n9 ([cT.getD 0 0]++([cT.getD 1 0]++([cT.getD 2 0]++([cT.getD 3 0]++([cT.getD 4 0]++([cT.getD 5 0]++([cT.getD 6 0]++[cT.getD 7 0]))))))) 8 0 aQ dP bA iM cT tT gI else none else none else none else none else none else none else none else none:=by kernel_rfl
def Il (n3 n6:Nat) (x7:List Int) (n7:Nat) (v8:Int) (x15:List Int) (n15:Nat) (aQ:List Int) (dP:Nat) (bA:List Int) (iM:Nat) (cT:List Int):St:={ tm:=[(2,.s (.ptr 0 0 64)),(3,.s (.own 1 n3 1)),(6,.s (.own 2 n6 1)),(7,.s (.dat (.ints .u64 x7) n7 1)),(8,.int .i64 v8),(15,.s (.dat (.ints .u64 x15) n15 1))],hp:=[(0,{ ty:=209,n:=64,row:=Row.t (.ints .u8 aQ) }),(1,{ ty:=5,n:=dP,row:=Row.t (.ints .u8 bA) }),(2,{ ty:=30,n:=iM,row:=Row.t (.ints .u64 cT) })],nx:=3,sz:=327 }
theorem Wd {β:Type} (fu:Nat) (G:FG β) (H:FH β) (n3 n6:Nat) (x7:List Int) (n7:Nat) (v8:Int) (n9:Nat) (x15:List Int) (n15:Nat) (B1:Int) (aQ:List Int) (dP:Nat) (bA:List Int) (iM:Nat) (cT:List Int) (tT:Nat) (gI:List Int):fI prog (dZ T0 R0 T1 R1 aN) fu NG G H (HC n3 n6 x7 n7 v8 n9 x15 n15 B1 aQ dP bA iM cT tT gI)=bif decide (B1 < 80) then bif decide ((0:Int) <= 4 /\ 4 < (n15:Int)) then (R1 [.int .u64 (x15.getD 4 0),.int .i64 14]).bind λ t=>bif decide ((0:Int) <= 4 /\ 4 < (n15:Int)) then (R1 [.int .u64 (x15.getD 4 0),.int .i64 18]).bind λ dH=>bif decide ((0:Int) <= 4 /\ 4 < (n15:Int)) then (R1 [.int .u64 (x15.getD 4 0),.int .i64 41]).bind λ eU=>bif decide ((0:Int) <= 4 /\ 4 < (n15:Int)) then bif decide ((0:Int) <= 5 /\ 5 < (n15:Int)) then bif decide ((0:Int) <= 4 /\ 4 < (n15:Int)) then bif decide ((0:Int) <= 6 /\ 6 < (n15:Int)) then bif decide ((0:Int) <= 7 /\ 7 < (n15:Int)) then bif decide (0 <= B1 /\ B1 < (n7:Int)) then bif decide (0 <= B1 /\ B1 < (n9:Int)) then bif decide ((0:Int) <= 0 /\ 0 < (n15:Int)) then (R1 [.int .u64 (x15.getD 0 0),.int .i64 28]).bind λ gE=>bif decide ((0:Int) <= 0 /\ 0 < (n15:Int)) then (R1 [.int .u64 (x15.getD 0 0),.int .i64 34]).bind λ gT=>bif decide ((0:Int) <= 0 /\ 0 < (n15:Int)) then (R1 [.int .u64 (x15.getD 0 0),.int .i64 39]).bind λ gJ=>bif decide ((0:Int) <= 0 /\ 0 < (n15:Int)) then bif decide ((0:Int) <= 1 /\ 1 < (n15:Int)) then bif decide ((0:Int) <= 0 /\ 0 < (n15:Int)) then bif decide ((0:Int) <= 2 /\ 2 < (n15:Int)) then bif decide ((0:Int) <= 1 /\ 1 < (n15:Int)) then bif decide ((0:Int) <= 2 /\ 2 < (n15:Int)) then bif decide ((0:Int) <= 0 /\ 0 < (n15:Int)) then bif decide ((0:Int) <= 1 /\ 1 < (n15:Int)) then bif decide ((0:Int) <= 2 /\ 2 < (n15:Int)) then bif decide ((0:Int) <= 3 /\ 3 < (n15:Int)) then bif decide ((0:Int) <= 4 /\ 4 < (n15:Int)) then bif decide ((0:Int) <= 5 /\ 5 < (n15:Int)) then bif decide ((0:Int) <= 6 /\ 6 < (n15:Int)) then G (some (HC n3 n6 x7 n7 v8 n9 ([u64.wrap (u64.wrap (u64.wrap (u64.wrap (u64.wrap (x15.getD 7 0+fL .u64 (fL .u64 (aN t) (aN dH)) (aN eU))+fL .u64 (d8 .u64 (x15.getD 4 0) (x15.getD 5 0)) (d8 .u64 (u64.wrap (18446744073709551615 - x15.getD 4 0)) (x15.getD 6 0)))+x7.getD B1.toNat 0)+gI.getD B1.toNat 0)+u64.wrap (fL .u64 (fL .u64 (aN gE) (aN gT)) (aN gJ)+fL .u64 (fL .u64 (d8 .u64 (x15.getD 0 0) (x15.getD 1 0)) (d8 .u64 (x15.getD 0 0) (x15.getD 2 0))) (d8 .u64 (x15.getD 1 0) (x15.getD 2 0))))]++([x15.getD 0 0]++([x15.getD 1 0]++([x15.getD 2 0]++([u64.wrap (x15.getD 3 0+u64.wrap (u64.wrap (u64.wrap (u64.wrap (x15.getD 7 0+fL .u64 (fL .u64 (aN t) (aN dH)) (aN eU))+fL .u64 (d8 .u64 (x15.getD 4 0) (x15.getD 5 0)) (d8 .u64 (u64.wrap (18446744073709551615 - x15.getD 4 0)) (x15.getD 6 0)))+x7.getD B1.toNat 0)+gI.getD B1.toNat 0))]++([x15.getD 4 0]++([x15.getD 5 0]++[x15.getD 6 0]))))))) 8 (i64.wrap (B1+1)) aQ dP bA iM cT tT gI)) else none else none else none else none else none else none else none else none else none else none else none else none else none else none else none else none else none else none else none else none else none else none else none else none else none else none else H (Ex.exit 12) (some (Il n3 n6 x7 n7 v8 x15 n15 aQ dP bA iM cT)):=by kernel_rfl
def HD (n3 n6:Nat) (x7:List Int) (n7:Nat) (v8:Int) (x15:List Int) (n15:Nat) (Sp:Int) (aQ:List Int) (dP:Nat) (bA:List Int) (iM:Nat) (cT:List Int):St:={ tm:=[(2,.s (.ptr 0 0 64)),(3,.s (.own 1 n3 1)),(6,.s (.own 2 n6 1)),(7,.s (.dat (.ints .u64 x7) n7 1)),(8,.int .i64 v8),(15,.s (.dat (.ints .u64 x15) n15 1)),(22,.int .i64 Sp)],hp:=[(0,{ ty:=209,n:=64,row:=Row.t (.ints .u8 aQ) }),(1,{ ty:=5,n:=dP,row:=Row.t (.ints .u8 bA) }),(2,{ ty:=30,n:=iM,row:=Row.t (.ints .u64 cT) })],nx:=3,sz:=327 }
def NI:Code:=cM (bN [1,1,1,1,1,1,1,1,0,1,2,6,1,0,2,1,1,1,1,1,1,2] (bD Tryz.f231))
def NJ {β:Type} (fu:Nat) (G:FG β) (H:FH β):=lP prog (dZ T0 R0 T1 R1 aN) fu [1,0,2,1,1,1,1,1,1,2] jG (vE (dZ T0 R0 T1 R1 aN) jG G H)
abbrev We {β:Type} (fu:Nat) (G:FG β) (H:FH β) (n3 n6:Nat) (x7:List Int) (n7:Nat) (v8:Int) (x15:List Int) (n15:Nat) (Sp:Int) (aQ:List Int) (dP:Nat) (bA:List Int) (iM:Nat) (cT:List Int):=eS prog (dZ T0 R0 T1 R1 aN) fu NI (NJ T0 R0 T1 R1 aN fu G H) fu (some (HD n3 n6 x7 n7 v8 x15 n15 Sp aQ dP bA iM cT))
theorem Ta {β:Type} (fu:Nat) (G:FG β) (H:FH β) (n3 n6:Nat) (x7:List Int) (n7:Nat) (v8:Int) (x15:List Int) (n15:Nat) (aQ:List Int) (dP:Nat) (bA:List Int) (iM:Nat) (cT:List Int):NH T0 R0 T1 R1 aN fu G H (Ex.exit 12) (Il n3 n6 x7 n7 v8 x15 n15 aQ dP bA iM cT)=We T0 R0 T1 R1 aN fu G H n3 n6 x7 n7 v8 x15 n15 0 aQ dP bA iM cT:=by kernel_rfl
def Im (n3 n6:Nat) (x7:List Int) (n7:Nat) (v8:Int) (aQ:List Int) (dP:Nat) (bA:List Int) (iM:Nat) (cT:List Int):St:={ tm:=[(2,.s (.ptr 0 0 64)),(3,.s (.own 1 n3 1)),(6,.s (.own 2 n6 1)),(7,.s (.dat (.ints .u64 x7) n7 1)),(8,.int .i64 v8)],hp:=[(0,{ ty:=209,n:=64,row:=Row.t (.ints .u8 aQ) }),(1,{ ty:=5,n:=dP,row:=Row.t (.ints .u8 bA) }),(2,{ ty:=30,n:=iM,row:=Row.t (.ints .u64 cT) })],nx:=3,sz:=327 }
theorem Wf {β:Type} (fu:Nat) (G:FG β) (H:FH β) (n3 n6:Nat) (x7:List Int) (n7:Nat) (v8:Int) (x15:List Int) (n15:Nat) (Sp:Int) (aQ:List Int) (dP:Nat) (bA:List Int) (iM:Nat) (cT:List Int):fI prog (dZ T0 R0 T1 R1 aN) fu NI G H (HD n3 n6 x7 n7 v8 x15 n15 Sp aQ dP bA iM cT)=bif decide (Sp < 8) then bif decide (0 <= Sp /\ Sp < (n6:Int)) then bif decide (0 <= Sp /\ Sp < (n15:Int)) then bif decide (0 <= Sp /\ Sp < (n6:Int)) then G (some (HD n3 n6 x7 n7 v8 x15 n15 (i64.wrap (Sp+1)) aQ dP bA iM (cT.set Sp.toNat (u64.wrap (cT.getD Sp.toNat 0+x15.getD Sp.toNat 0))))) else none else none else none else H (Ex.exit 14) (some (Im n3 n6 x7 n7 v8 aQ dP bA iM cT)):=by kernel_rfl
theorem Tb {β:Type} (fu:Nat) (G:FG β) (H:FH β) (n3 n6:Nat) (x7:List Int) (n7:Nat) (v8:Int) (aQ:List Int) (dP:Nat) (bA:List Int) (iM:Nat) (cT:List Int):NJ T0 R0 T1 R1 aN fu G H (Ex.exit 14) (Im n3 n6 x7 n7 v8 aQ dP bA iM cT)=G (some (DS n3 n6 x7 n7 (i64.wrap (v8+128)) aQ dP bA iM cT)):=by kernel_rfl
end
theorem NK {ss:List Str} {n:Nat} (h:CK ss n=true):aLV [.s (.dat (.strs ss) n 1)]=some (OL (Lib.join ss [])):=by
 show cond (CK ss n) (some (OL (Lib.join ss []))) none=_;rw [h]; rfl
abbrev iW:Cg:=dZ (PUnit) rK (Nat) fD (λ t=>↑t)
theorem aDD:CfOk prog iW.c:=gk <| aA bAj <| aA aMe <| aK
def HE:Summ where
 T:=List Nat
 run:=λ
  | [.c (.s (.pl (.str s)))]=>cond (Nat.ble s.length 1099511627000) (some (OL s)) none
  | _=>none
 enc:=λ t=>.agg (.ints .u8 (up t)) 64
theorem dT {p:Prop} [Decidable p] (h:p):decide p=true:=aE h
theorem In (n:Nat):Lib.repeatL ([0]:Str) n=List.replicate n 0:=by
 induction n with
 | zero=>rfl
 | succ n ih=>rw [Lib.repeatL,ih]; rfl
theorem aYa (t:Str) (hl:t.length <= 1099511627000) (v:Int) (z:List Int) (fu:Nat):∀ (d n j:Nat),j+d=(247 - t.length%128)%128->d < n ->
  eS prog iW fu M6 (M7 _ rK _ fD (λ t=>(t:Int)) fu) n (some (G7 (t.length+1+j) v z ((t.length+1+j)*1) ((t++([128]++List.replicate j 0)).map lO))) =
   WS _ rK _ fD (λ t=>(t:Int)) fu (D9 t).length v 7 z ((D9 t).length*1) ((D9 t).map lO):=by
 intro d
 induction d with
 | zero=>
  intro n j hj hn;obtain ⟨n,rfl⟩:=aP (by omega:n ≠ 0);have e:((t.length+1+j:Nat):Int).tmod 128=120:=by rw [lM (by omega)]; omega
  rw [aF,WR,aE e,jW,aD,aR,Zd,DR,show t.length+1+j=t.length+1+(247 - t.length%128)%128 by omega,D9,In,<-hj]; rfl
 | succ d ih=>
  intro n j hj hn;obtain ⟨n,rfl⟩:=aP (by omega:n ≠ 0);have h:=ih n (j+1) (by omega) (by omega);have e:¬ ((t.length+1+j:Nat):Int).tmod 128=120:=by rw [lM (by omega)]; omega
  rw [aF,WR,aH e,lL,aB,aE (by omega),aB];rw [List.replicate_succ',<-lN [128],<-lN t,vG (l₁:=t++_)] at h;exact h
theorem aSQ (n:Nat):lO (b8 ((n%256:Nat):Int))=((n%256:Nat):Int):=by
 unfold lO;rw [b8,bE];simp
theorem aYb (P:Str) (hP:P.length+8 <= 1099511627776) (m:Nat) (hm:m < 18446744073709551616) (z:List Int) (fu:Nat):∀ (d n k:Nat),k+d=8->d < n ->
  eS prog iW fu M8 (M9 _ rK _ fD (λ t=>(t:Int)) fu) n (some (G8 (P.length+k) (m:Int) (7 - (k:Int)) z ((P.length+k)*1) ((P++be m k).map lO))) =
   WU _ rK _ fD (λ t=>(t:Int)) fu (P.length+8) 8 (up kN) 80 0 z ((P.length+8)*1) ((P++be m 8).map lO) 8 (up hN):=by
 intro d
 induction d with
 | zero=>
  intro n k hk hn;obtain ⟨n,rfl⟩:=aP (by omega:n ≠ 0);have:k=8:=by omega
  subst this;rw [aF,WT,aH (by decide),aD,aR,Ze,show rK []=some () from rfl,aC]; rfl
 | succ d ih=>
  intro n k hk hn;obtain ⟨n,rfl⟩:=aP (by omega:n ≠ 0);have h:=ih n (k+1) (by omega) (by omega);have hl:=Ig m k;have hix:i64.wrap ((8:Int)*(7 - (k:Int)))=((8*(7 - k):Nat):Int):=by rw [bY (by omega) (by omega)]; omega
  rw [aF,WT,aE (by omega),aB,hix,aH (by omega),aD,aE (by omega),aB,mV _ _ (by omega),Db,bY (by omega) (by omega)];rw [show (7:Int) - (k:Int) - 1=7 - ((k+1:Nat):Int) by omega];rw [be,<-lN,vG (l₁:=P++_),List.map_singleton,aSQ] at h;exact h
theorem aDE (s:Str) (i k:Nat) (hk:k < 8):u64.wrap (u64.wrap (((wd s i k:Nat):Int)*256)+u64.wrap (((s.getD (8*i+k) 0).toNat:Nat):Int))=((wd s i (k+1):Nat):Int):=by
 have hb:=(s.getD (8*i+k) 0).toNat_lt;have h1:=aF2 s i k;have h2:(256:Nat) ^ k <= 256 ^ 7:=iK (by decide) (by omega);rw [show ((wd s i k:Nat):Int)*256=((wd s i k*256:Nat):Int) by omega,fM,fM,aV (by omega),aV (by omega),<-fZ,fM,aV (by omega)]; rfl
theorem aJW (F:Str) (a j:Nat) (hj:j < 128):(F.map lO).getD (a+j) 0=((((F.drop a).take 128).getD j 0).toNat:Int):=by
 rw [fU,fU,kW,aT hj,mO,kV];cases F[a+j]? <;> rfl
theorem aDF {β:Type} (F:Str) (a:Nat) (ha:a+128 <= F.length) (hF:F.length <= 1099511627776) (i:Nat) (hi:i < 16) (fu:Nat) (z x2:List Int) (m1 m2 m3:Nat) (G:FG β) (H:FH β):∀ (d n k:Nat),k+d=8->d < n ->
  eS prog iW fu NA (NB _ rK _ fD (λ t=>(t:Int)) fu G H) n (some (G9 F.length 8 (up kN) 80 (a:Int) 80 (i:Int) (k:Int) z m1 (F.map lO) m2 x2 m3 (up ((blk ((F.drop a).take 128) i).set i (wd ((F.drop a).take 128) i k))))) =
   G (some (DT F.length 8 (up kN) 80 (a:Int) 80 ((i+1:Nat):Int) z m1 (F.map lO) m2 x2 m3 (up (blk ((F.drop a).take 128) (i+1))))):=by
 intro d
 induction d with
 | zero=>
  intro n k hk hn;obtain ⟨n,rfl⟩:=aP (by omega:n ≠ 0);have:k=8:=by omega
  subst this;rw [aF,WY,aH (by decide),aD,aR,Zh,bY (by omega) (by omega),Xf _ i (by omega)]; rfl
 | succ d ih=>
  intro n k hk hn;obtain ⟨n,rfl⟩:=aP (by omega:n ≠ 0);have h:=ih n (k+1) (by omega) (by omega);have hix:i64.wrap (i64.wrap ((a:Int)+i64.wrap ((8:Int)*(i:Int)))+(k:Int))=((a+(8*i+k):Nat):Int):=by
   rw [bY (n:=8*(i:Int)) (by omega) (by omega),bY (n:=(a:Int)+8*(i:Int)) (by omega) (by omega),bY (by omega) (by omega)]; omega
  rw [aF,WY,aE (by omega),aB,hix,aE (by omega),aB,aE (by omega),aB,aB,bE,bE,aJW F a _ (by omega),mA,AZ,aT ⟨rfl,by rw [yB _ _ (by omega)]; omega⟩,
   aDE _ i k (by omega),FP,List.set_set,bY (by omega) (by omega)]
  exact h
theorem aDG {β:Type} (F:Str) (a:Nat) (ha:a+128 <= F.length) (hF:F.length <= 1099511627776) (fu:Nat) (hfu:8 < fu) (z x2:List Int) (m1 m2 m3:Nat) (G:FG β) (H:FH β):∀ (d n i:Nat),i+d=16->d < n ->
  eS prog iW fu A5 (DU _ rK _ fD (λ t=>(t:Int)) fu G H) n (some (DT F.length 8 (up kN) 80 (a:Int) 80 (i:Int) z m1 (F.map lO) m2 x2 m3 (up (blk ((F.drop a).take 128) i)))) =
   WZ _ rK _ fD (λ t=>(t:Int)) fu G H F.length 8 (up kN) 80 (a:Int) 80 16 z m1 (F.map lO) m2 x2 m3 (up (blk ((F.drop a).take 128) 16)):=by
 intro d
 induction d with
 | zero=>
  intro n i hi hn;obtain ⟨n,rfl⟩:=aP (by omega:n ≠ 0);have:i=16:=by omega
  subst this;rw [aF,WW,aH (by decide),aD,aR,Zg]
 | succ d ih=>
  intro n i hi hn;obtain ⟨n,rfl⟩:=aP (by omega:n ≠ 0);rw [aF,WW,aE (by omega),aB];have h:=aDF F a ha hF i (by omega) fu z x2 m1 m2 m3 (eS prog iW fu A5 (DU _ rK _ fD (λ t=>(t:Int)) fu G H) n) (Ak (DU _ rK _ fD (λ t=>(t:Int)) fu G H)) 8 fu 0 (by omega) hfu;rw [<-Lf _ i (by omega)] at h;refine iR h ?_;exact ih n (i+1) (by omega) (by omega)
theorem aDH {β:Type} (F:Str) (a:Nat) (fu:Nat) (z x2:List Int) (m1 m2 m3:Nat) (G:FG β) (H:FH β) (x0:List Nat) (hx0:ED x0) (h8:x2=up (dn x2) ):∀ (e n d:Nat),d+e=64->e < n ->
  eS prog iW fu NE (NF _ rK _ fD (λ t=>(t:Int)) fu G H) n (some (HB F.length 8 (up kN) 80 (a:Int) 80 ((16+d:Nat):Int) z m1 (F.map lO) m2 x2 m3 (up (cP x0 d)))) =
   Wc _ rK _ fD (λ t=>(t:Int)) fu G H F.length 8 (up kN) 80 (a:Int) 80 [x2.getD 0 0,x2.getD 1 0,x2.getD 2 0,x2.getD 3 0,x2.getD 4 0,x2.getD 5 0,x2.getD 6 0,x2.getD 7 0] 8 0 z m1 (F.map lO) m2 x2 m3 (up (cP x0 64)):=by
 intro e
 induction e with
 | zero=>
  intro n d hd hn;obtain ⟨n,rfl⟩:=aP (by omega:n ≠ 0);have:d=64:=by omega
  subst this;rw [aF,Wb,aH (by decide),aD,aR,TZ];rfl
 | succ e ih=>
  intro n d hd hn;obtain ⟨n,rfl⟩:=aP (by omega:n ≠ 0);have h:=ih n (d+1) (by omega) (by omega);have ok:=RU hx0 d;have w:∀ k:Nat,k <= 16->i64.wrap (((16+d:Nat):Int) - ((k:Nat):Int))=((16+d - k:Nat):Int):=λ k hk=>by rw [bY (by omega) (by omega)]; omega
  have w15:=w 15 (by omega);have w2:=w 2 (by omega);have w16:=w 16 (by omega);have w7:=w 7 (by omega);simp only [Fq] at w15 w2 w16 w7;rw [aF,Wb,aE (by omega),aB,w15,w2,w16,w7];simp (disch:=omega) only [dT,aB];simp only [bE,mA];have t1:=eZ _ 1 (ok (16+d - 15)) (by decide) (by decide);have t8:=eZ _ 8 (ok (16+d - 15)) (by decide) (by decide);have t19:=eZ _ 19 (ok (16+d - 2)) (by decide) (by decide);have t61:=eZ _ 61 (ok (16+d - 2)) (by decide) (by decide);simp only [Fq] at t1 t8 t19 t61;rw [t1,aC,t8,aC,t19,aC,t61,aC];have a15:=ok (16+d - 15);have a2:=ok (16+d - 2);have x0':fL .u64 (fL .u64 ((rr ((cP x0 d).getD (16+d - 15) 0) 1:Nat):Int) ((rr ((cP x0 d).getD (16+d - 15) 0) 8:Nat):Int)) (eK .u64 (((cP x0 d).getD (16+d - 15) 0:Nat):Int) 7)=((g0 ((cP x0 d).getD (16+d - 15) 0):Nat):Int):=by
   rw [show (7:Int)=((7:Nat):Int) from rfl,mV _ _ (by decide),rN _ _ (jB _ a15) (jB _ a15),rN _ _ (tI (jB _ a15) (jB _ a15)) (EF _ a15)]; rfl
  have x1':fL .u64 (fL .u64 ((rr ((cP x0 d).getD (16+d - 2) 0) 19:Nat):Int) ((rr ((cP x0 d).getD (16+d - 2) 0) 61:Nat):Int)) (eK .u64 (((cP x0 d).getD (16+d - 2) 0:Nat):Int) 6)=((g1 ((cP x0 d).getD (16+d - 2) 0):Nat):Int):=by
   rw [show (6:Int)=((6:Nat):Int) from rfl,mV _ _ (by decide),rN _ _ (jB _ a2) (jB _ a2),rN _ _ (tI (jB _ a2) (jB _ a2)) (EF _ a2)]; rfl
  have sm:∀ a b c e:Nat,u64.wrap (u64.wrap (u64.wrap ((a:Int)+(b:Int))+(c:Int))+(e:Int))=((D7 (a+b+c+e):Nat):Int):=λ a b c e=>by
   rw [<-fZ,fM,<-fZ,fM,<-fZ,fM,D7];have:((((a+b)%18446744073709551616+c)%18446744073709551616)+e)%18446744073709551616=(a+b+c+e)%18446744073709551616:=by omega
   rw [this]
  rw [x0',x1',sm,FP,bY (by omega) (by omega)];exact h
theorem aSR (x:Nat) (hx:x < 18446744073709551616):u64.wrap ((18446744073709551615:Int) - (x:Int))=((18446744073709551615 - x:Nat):Int):=by
 rw [show (18446744073709551615:Int) - (x:Int)=((18446744073709551615 - x:Nat):Int) by omega,fM,aV (by omega)]
theorem Zi {β:Type} (F:Str) (a:Nat) (fu:Nat) (z x2:List Int) (m1 m2 m3:Nat) (G:FG β) (H:FH β) (s w:List Nat) (hs:ED s):∀ (d n i:Nat),i+d=80->d < n ->
  eS prog iW fu NG (NH _ rK _ fD (λ t=>(t:Int)) fu G H) n (some (HC F.length 8 (up kN) 80 (a:Int) 80 (up (wQ w s i)) 8 (i:Int) z m1 (F.map lO) m2 x2 m3 (up w))) =
   We _ rK _ fD (λ t=>(t:Int)) fu G H F.length 8 (up kN) 80 (a:Int) (up (wQ w s 80)) 8 0 z m1 (F.map lO) m2 x2:=by
 intro d
 induction d with
 | zero=>
  intro n i hi hn;obtain ⟨n,rfl⟩:=aP (by omega:n ≠ 0);have:i=80:=by omega
  subst this;rw [aF,Wd,aH (by decide),aD,aR,Ta]
 | succ d ih=>
  intro n i hi hn;obtain ⟨n,rfl⟩:=aP (by omega:n ≠ 0);have h:=ih n (i+1) (by omega) (by omega);have ok:=JY w hs i;rw [show wQ w s (i+1)=rnd (wQ w s i) (kN.getD i 0) (w.getD i 0) from rfl] at h;rw [aF,Wd,aE (by omega),aB];generalize wQ w s i=t at ok h ⊢;have t14:=eZ _ 14 (ok 4) (by decide) (by decide);have t18:=eZ _ 18 (ok 4) (by decide) (by decide);have t41:=eZ _ 41 (ok 4) (by decide) (by decide);have t28:=eZ _ 28 (ok 0) (by decide) (by decide);have t34:=eZ _ 34 (ok 0) (by decide) (by decide);have t39:=eZ _ 39 (ok 0) (by decide) (by decide);simp only [Fq] at t14 t18 t41 t28 t34 t39;simp only [bE,mA];simp (disch:=omega) only [dT,aB,t14,aC,t18,t41,t28,t34,t39];have y:=aYK t ok;have x:=aYJ t ok (kN.getD i 0) (w.getD i 0);rw [aPr _ (ok 4),<-aSR _ (ok 4)] at x;rw [x,y,bY (by omega) (by omega)];have sm:∀ a b:Nat,u64.wrap ((a:Int)+(b:Int))=((D7 (a+b):Nat):Int):=λ a b=>by rw [<-fZ,fM]; rfl
  rw [sm,sm];exact h
theorem aSS {β:Type} (F:Str) (a:Nat) (hF:F.length <= 1099511627776) (ha:a+128 <= F.length) (fu:Nat) (z:List Int) (m1 m2:Nat) (G:FG β) (H:FH β) (s t:List Nat):∀ (d n i:Nat),i+d=8->d < n ->
  eS prog iW fu NI (NJ _ rK _ fD (λ t=>(t:Int)) fu G H) n (some (HD F.length 8 (up kN) 80 (a:Int) (up t) 8 (i:Int) z m1 (F.map lO) m2 (up (FO s t i)))) =
   G (some (DS F.length 8 (up kN) 80 ((a+128:Nat):Int) z m1 (F.map lO) m2 (up (FO s t 8)))):=by
 intro d
 induction d with
 | zero=>
  intro n i hi hn;obtain ⟨n,rfl⟩:=aP (by omega:n ≠ 0);have:i=8:=by omega
  subst this;rw [aF,Wf,aH (by decide),aD,aR,Tb,bY (by omega) (by omega)]; rfl
 | succ d ih=>
  intro n i hi hn;obtain ⟨n,rfl⟩:=aP (by omega:n ≠ 0);have h:=ih n (i+1) (by omega) (by omega);have sm:∀ a b:Nat,u64.wrap ((a:Int)+(b:Int))=((D7 (a+b):Nat):Int):=λ a b=>by rw [<-fZ,fM]; rfl
  rw [aF,Wf];simp (disch:=omega) only [dT,aB];rw [bE,mA,mA,sm,FP,bY (by omega) (by omega)];exact h
theorem aDI {s:List Nat} (h:s.length=8):[(up s).getD 0 0,(up s).getD 1 0,(up s).getD 2 0,(up s).getD 3 0,(up s).getD 4 0,(up s).getD 5 0,(up s).getD 6 0,(up s).getD 7 0]=up s:=by
 match s,h with
 | [a,b,c,d,e,f,g,i],_=>rfl
theorem Zj (F:Str) (hF:F.length <= 1099511627776) (z:List Int) (m1 m2:Nat) (fu:Nat) (hfu:80 < fu):∀ (q n a:Nat) (h:List Nat),a+128*q=F.length->h.length=8->ED h->q < n ->
  eS prog iW fu jG (nF _ rK _ fD (λ t=>(t:Int)) fu) n (some (DS F.length 8 (up kN) 80 (a:Int) z m1 (F.map lO) m2 (up h))) =
   WX _ rK _ fD (λ t=>(t:Int)) fu 8 0 z m2 (up (AX h q (F.drop a))) pI:=by
 intro q
 induction q with
 | zero=>
  intro n a h hq hl ok hn;obtain ⟨n,rfl⟩:=aP (by omega:n ≠ 0);rw [aF,WV,aH (by omega),aD,aR,Zf]; rfl
 | succ q ih=>
  intro n a h hq hl ok hn;obtain ⟨n,rfl⟩:=aP (by omega:n ≠ 0);rw [aF,WV,aE (by omega),aB];have o:=aDG F a (by omega) hF fu (by omega) z (up h) m1 m2 80 (eS prog iW fu jG (nF _ rK _ fD (λ t=>(t:Int)) fu) n) (Ak (nF _ rK _ fD (λ t=>(t:Int)) fu)) 16 fu 0 (by omega) (by omega);refine iR (iR ?_ o) ?_
  ·rfl
  have c:=aDH F a fu z (up h) m1 m2 80 (eS prog iW fu jG (nF _ rK _ fD (λ t=>(t:Int)) fu) n) (Ak (nF _ rK _ fD (λ t=>(t:Int)) fu)) (blk ((F.drop a).take 128) 16) (aF3 _ _) (by rw [QW]) 64 fu 0 (by omega) (by omega);refine iR (iR ?_ c) ?_
  ·rfl
  rw [aDI hl];have r:=Zi F a fu z (up h) m1 m2 80 (eS prog iW fu jG (nF _ rK _ fD (λ t=>(t:Int)) fu) n) (Ak (nF _ rK _ fD (λ t=>(t:Int)) fu)) h (cP (blk ((F.drop a).take 128) 16) 64) ok 80 fu 0 (by omega) (by omega);refine iR (iR ?_ r) ?_
  ·rfl
  have x:=aSS F a hF (by omega) fu z m1 m2 (eS prog iW fu jG (nF _ rK _ fD (λ t=>(t:Int)) fu) n) (Ak (nF _ rK _ fD (λ t=>(t:Int)) fu)) h (wQ (cP (blk ((F.drop a).take 128) 16) 64) h 80) 8 fu 0 (by omega) (by omega);refine iR (iR ?_ x) ?_
  ·rfl
  have i:=ih n (a+128) (AW h ((F.drop a).take 128)) (by omega) (K9 _ hl) (Ih _ ok) (by omega);rw [<-KA] at i;exact i
theorem aST (h:List Nat) (ok:ED h) (z:List Int) (m:Nat) (fu:Nat):∀ (d n i:Nat),i+d=64->d < n ->
  eS prog iW fu NC (ND _ rK _ fD (λ t=>(t:Int)) fu) n (some (HA 8 (i:Int) z m (up h) (up (Cl h i)++List.replicate (64 - i) 0)))=some (.agg (.ints .u8 (up (Cl h 64))) 64):=by
 intro d
 induction d with
 | zero=>
  intro n i hi hn;obtain ⟨n,rfl⟩:=aP (by omega:n ≠ 0);have:i=64:=by omega
  subst this;rw [aF,Wa,aH (by decide),aD,aR,TY,i0,uQ,i8]
 | succ d ih=>
  intro n i hi hn;obtain ⟨n,rfl⟩:=aP (by omega:n ≠ 0);have h':=ih n (i+1) (by omega) (by omega);have h1:((i:Nat):Int).tdiv 8=((i / 8:Nat):Int):=by rw [rF (by omega)]; omega
  have h2:((i:Nat):Int).tmod 8=((i%8:Nat):Int):=by rw [lM (by omega)]; omega
  have e1:i64.wrap (((i:Nat):Int).tdiv 8)=((i / 8:Nat):Int):=by rw [h1]; exact bY (by omega) (by omega)
  have e2:i64.wrap ((56:Int) - i64.wrap ((8:Int)*((i:Nat):Int).tmod 8))=((56 - 8*(i%8):Nat):Int):=by
   rw [h2,bY (n:=8*((i%8:Nat):Int)) (by omega) (by omega),bY (by omega) (by omega)]; omega
  rw [aF,Wa,aE (by omega),aB,e1,e2,aE (by omega),aB,aH (by omega),aD,aE (by omega),aB,bE,bE,bS,mA,mV _ _ (by omega),Db,bY (by omega) (by omega),QY h i (by omega)];exact h'
theorem aSU (s:Str) (h1:s.length <= 1099511627000) (fu:Nat) (hf:(full s).length+100 < fu):bB prog Tryz.f231 iW fu [.str s]=some (.agg (.ints .u8 (up (OL s))) 64):=by
 refine (aJT ..).trans ?_;rw [aE (by omega),aB,aE (by omega),aB];have hw:u64.wrap (u64.wrap ((s.length:Nat):Int)*8)=((s.length*8:Nat):Int):=by
  rw [fM,aV (by omega),show ((s.length:Nat):Int)*8=((s.length*8:Nat):Int) by omega,fM,aV (by omega)]
 rw [hw];have hl:=DR s;have fl:=QZ s;have fe:(full s).length=(D9 s).length+8:=by rw [full,i9,Ig]
 have a:=aYa s h1 ((s.length*8:Nat):Int) pI fu _ fu 0 (bS _) (by omega);have b:=aYb (D9 s) (by omega) (s.length*8) (by omega) pI fu 8 fu 0 (by omega) (by omega);rw [show D9 s++be (s.length*8) 0=D9 s from i8 _,<-fe] at b;have c:=Zj (full s) (by omega) pI ((full s).length*1) 8 fu (by omega) ((full s).length / 128) fu 0 hN (by omega) rfl M5 (by omega);have e:=aST (AX hN ((full s).length / 128) (full s)) (LA _ _ _ M5) pI 8 fu 64 fu 0 (by omega) (by omega);rw [Ii] at e;rw [kU] at c;rw [show (List.replicate 0 (0:UInt8))=[] from rfl,i8,vG] at a;exact iR a (iR b (iR c e))
theorem Zk:CallOk prog 231 HE:=by
 refine aZ (fu:=λ args=>match args with | [.c (.s (.pl (.str s)))]=>(full s).length+101 | _=>0) aDD Tryz.func231 ?_;intro args t ht;unfold HE at ht;simp only at ht;split at ht
 ·rename_i s;obtain ⟨h1,h2⟩:=cC ht;subst h2;rw [lC] at h1;exact aSU s h1 _ (lD _)
 ·cases ht
section
variable (T0:Type) (R0:FA T0) (aG:T0->List UInt8) (T1:Type) (R1:FA T1) (aN:T1->List UInt8) (T2:Type) (R2:FA T2) (bC:T2->List Int)
end
section
variable (T0:Type) (R0:FA T0) (aG:T0->List Int) (T1:Type) (R1:FA T1) (aN:T1->List UInt8)
end
theorem Ip {a:List Int} (h:a.length=64):aDC [.agg (.ints .u8 a) 64]=some (a.map b8):=by
 show cond (Nat.beq a.length 64) _ none=_;rw [h]; rfl
theorem DV (s:Str):(OL s).length=64:=QX _ _
end
end Go.Eng
