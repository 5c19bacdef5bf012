import Derived.Test.YtmicbaijcbkmjaaGreatZS1
namespace Go.Eng
open Go.IntKind (u64 i64 u8)
noncomputable section
open Go Go.Proofs
set_option linter.all false
section
variable (T0:Type) (R0:FA T0) (aG:T0->List UInt8) (T1:Type) (R1:FA T1) (aN:T1->List UInt8) (T2:Type) (R2:FA T2) (T3:Type) (R3:FA T3) (T4:Type) (R4:FA T4) (eV:T4->List Int)
def tA:Cg:=⟨⟨dD [(69,⟨R0,λ t=>AV.str (aG t)⟩),(150,⟨R1,λ t=>AV.str (aN t)⟩),(199,⟨R2,λ t=>AV.agg (.ints .u64 (up hN)) 8⟩),(200,⟨R3,λ t=>AV.agg (.ints .u64 (up kN)) 80⟩),(201,⟨R4,λ t=>AV.agg (.ints .u64 (eV t)) 8⟩)],[],dS⟩,[(6,[2,3,4,5],[2,3]),(10,[2,3,6,7],[2,6]),(15,[2,6,8,48],[2,8])]⟩
def HF (s3:Str) (v4 v5:Int) (aQ:List Int):St:={ tm:=[(2,.s (.ptr 0 0 64)),(3,.str s3),(4,.int .u64 v4),(5,.int .i64 v5)],hp:=[(0,{ ty:=209,n:=64,row:=Row.t (.ints .u8 aQ) })],nx:=1,sz:=65 }
def M3:Code:=cM (bN [1,1,1,1,0,1,2] (bD Tryz.f179))
def M4 (fu:Nat):=lO prog (tA T0 R0 aG T1 R1 aN T2 R2 T3 R3 T4 R4 eV) fu [1,1,1,1,0,1,2] (bD Tryz.f179) (fQ prog Tryz.f179)
abbrev aKz (fu:Nat) (s3:Str) (v4 v5:Int) (aQ:List Int):=eS prog (tA T0 R0 aG T1 R1 aN T2 R2 T3 R3 T4 R4 eV) fu M3 (M4 T0 R0 aG T1 R1 aN T2 R2 T3 R3 T4 R4 eV fu ) fu (some (HF s3 v4 v5 aQ))
theorem aKA (fu:Nat) (ss:List Str) (n:Nat):bB prog Tryz.f179 (tA T0 R0 aG T1 R1 aN T2 R2 T3 R3 T4 R4 eV) fu [.s (.dat (.strs ss) n 1)]=(R0 [.s (.dat (.strs ss) n 1),.str []]).bind λ t=>(R1 [.str [(0:UInt8)],.int .i64 ((i64.wrap (247 - (↑(aG t).length:Int).tmod 128)).tmod 128)]).bind λ dH=>bif decide (1+(aN dH).length <= 9223372036854775807) then bif decide ((aG t).length+List.length ([(128:UInt8)]++aN dH) <= 9223372036854775807) then aKz T0 R0 aG T1 R1 aN T2 R2 T3 R3 T4 R4 eV fu (aG t++([(128:UInt8)]++aN dH)) (u64.wrap (u64.wrap (↑(aG t).length:Int)*8)) 7 [0,0,0,0,0,0,0,0,0,0,0,0,0,0,0,0,0,0,0,0,0,0,0,0,0,0,0,0,0,0,0,0,0,0,0,0,0,0,0,0,0,0,0,0,0,0,0,0,0,0,0,0,0,0,0,0,0,0,0,0,0,0,0,0] else none else none:=by kernel_rfl
def K8 (s3:Str) (aQ:List Int):St:={ tm:=[(2,.s (.ptr 0 0 64)),(3,.str s3)],hp:=[(0,{ ty:=209,n:=64,row:=Row.t (.ints .u8 aQ) })],nx:=1,sz:=65 }
theorem V9 {β:Type} (fu:Nat) (G:FG β) (H:FH β) (s3:Str) (v4 v5:Int) (aQ:List Int):fI prog (tA T0 R0 aG T1 R1 aN T2 R2 T3 R3 T4 R4 eV) fu M3 G H (HF s3 v4 v5 aQ)=bif decide (0 <= v5) then bif decide (i64.wrap (8*v5) < 0) then none else bif decide (List.length s3+1 <= 9223372036854775807) then G (some (HF (s3++List.map b8 [u8.wrap (eK .u64 v4 (i64.wrap (8*v5)))]) v4 (i64.wrap (v5 - 1)) aQ)) else none else H (Ex.exit 0) (some (K8 s3 aQ)):=by kernel_rfl
def HG (s3:Str) (aQ bA cT:List Int):St:={ tm:=[(2,.s (.ptr 0 0 64)),(3,.str s3),(6,.s (.ptr 1 0 8)),(7,.s (.ptr 2 0 80))],hp:=[(0,{ ty:=209,n:=64,row:=Row.t (.ints .u8 aQ) }),(1,{ ty:=225,n:=8,row:=Row.t (.ints .u64 bA) }),(2,{ ty:=227,n:=80,row:=Row.t (.ints .u64 cT) })],nx:=3,sz:=65 }
def M5:Code:=cM (bN [1,1,1,1,1,1,0,2] (bD Tryz.f179))
def M6 (fu:Nat):=lO prog (tA T0 R0 aG T1 R1 aN T2 R2 T3 R3 T4 R4 eV) fu [1,1,1,1,1,1,0,2] (bD Tryz.f179) (fQ prog Tryz.f179)
abbrev WA (fu:Nat) (s3:Str) (aQ bA cT:List Int):=eS prog (tA T0 R0 aG T1 R1 aN T2 R2 T3 R3 T4 R4 eV) fu M5 (M6 T0 R0 aG T1 R1 aN T2 R2 T3 R3 T4 R4 eV fu ) fu (some (HG s3 aQ bA cT))
theorem ZH (fu:Nat) (s3:Str) (aQ:List Int):M4 T0 R0 aG T1 R1 aN T2 R2 T3 R3 T4 R4 eV fu  (Ex.exit 0) (K8 s3 aQ)=(R2 []).bind λ t=>(R3 []).bind λ t=>WA T0 R0 aG T1 R1 aN T2 R2 T3 R3 T4 R4 eV fu s3 aQ (up hN) (up kN):=by kernel_rfl
def K9 (aQ bA:List Int):St:={ tm:=[(2,.s (.ptr 0 0 64)),(6,.s (.ptr 1 0 8))],hp:=[(0,{ ty:=209,n:=64,row:=Row.t (.ints .u8 aQ) }),(1,{ ty:=225,n:=8,row:=Row.t (.ints .u64 bA) })],nx:=2,sz:=65 }
theorem WB {β:Type} (fu:Nat) (G:FG β) (H:FH β) (s3:Str) (aQ bA cT:List Int):fI prog (tA T0 R0 aG T1 R1 aN T2 R2 T3 R3 T4 R4 eV) fu M5 G H (HG s3 aQ bA cT)=bif !decide (s3=[]) then bif decide ((0:Int) <= 0 /\ (0:Int) <= 128 /\ 128 <= (↑(List.length s3):Int)) then (R4 [.agg (.ints .u64 bA) 8,.s (.rptr (.ints .u64 cT) 0 80),.str (sl s3 0 128)]).bind λ t=>bif decide ((0:Int) <= 128 /\ 128 <= (↑(List.length s3):Int) /\ (↑(List.length s3):Int) <= (↑(List.length s3):Int)) then G (some (HG (sl s3 128 (↑(List.length s3):Int)) aQ (eV t) cT)) else none else none else H (Ex.exit 2) (some (K9 aQ bA)):=by kernel_rfl
def HH (VO:Int) (aQ bA cT:List Int):St:={ tm:=[(2,.s (.ptr 0 0 64)),(6,.s (.ptr 1 0 8)),(8,.s (.ptr 2 0 64)),(48,.int .i64 VO)],hp:=[(0,{ ty:=209,n:=64,row:=Row.t (.ints .u8 aQ) }),(1,{ ty:=225,n:=8,row:=Row.t (.ints .u64 bA) }),(2,{ ty:=209,n:=64,row:=Row.t (.ints .u8 cT) })],nx:=3,sz:=65 }
def M7:Code:=cM (bN [1,1,1,1,1,1,1,1,0,1,2] (bD Tryz.f179))
def M8 (fu:Nat):=lO prog (tA T0 R0 aG T1 R1 aN T2 R2 T3 R3 T4 R4 eV) fu [1,1,1,1,1,1,1,1,0,1,2] (bD Tryz.f179) (fQ prog Tryz.f179)
abbrev WC (fu:Nat) (VO:Int) (aQ bA cT:List Int):=eS prog (tA T0 R0 aG T1 R1 aN T2 R2 T3 R3 T4 R4 eV) fu M7 (M8 T0 R0 aG T1 R1 aN T2 R2 T3 R3 T4 R4 eV fu ) fu (some (HH VO aQ bA cT))
theorem ZI (fu:Nat) (aQ bA:List Int):M6 T0 R0 aG T1 R1 aN T2 R2 T3 R3 T4 R4 eV fu  (Ex.exit 2) (K9 aQ bA)=WC T0 R0 aG T1 R1 aN T2 R2 T3 R3 T4 R4 eV fu 0 aQ bA [0,0,0,0,0,0,0,0,0,0,0,0,0,0,0,0,0,0,0,0,0,0,0,0,0,0,0,0,0,0,0,0,0,0,0,0,0,0,0,0,0,0,0,0,0,0,0,0,0,0,0,0,0,0,0,0,0,0,0,0,0,0,0,0]:=by kernel_rfl
def LA (aQ bA:List Int):St:={ tm:=[(2,.s (.ptr 0 0 64)),(8,.s (.ptr 1 0 64))],hp:=[(0,{ ty:=209,n:=64,row:=Row.t (.ints .u8 aQ) }),(1,{ ty:=209,n:=64,row:=Row.t (.ints .u8 bA) })],nx:=2,sz:=65 }
theorem WD {β:Type} (fu:Nat) (G:FG β) (H:FH β) (VO:Int) (aQ bA cT:List Int):fI prog (tA T0 R0 aG T1 R1 aN T2 R2 T3 R3 T4 R4 eV) fu M7 G H (HH VO aQ bA cT)=bif decide (VO < 64) then bif decide (0 <= i64.wrap (VO.tdiv 8) /\ i64.wrap (VO.tdiv 8) < 8) then bif decide (i64.wrap (56 - i64.wrap (8*VO.tmod 8)) < 0) then none else bif decide (0 <= VO /\ VO < 64) then G (some (HH (i64.wrap (VO+1)) aQ bA (cT.set (0+VO.toNat) (u8.wrap (eK .u64 (bA.getD (0+(i64.wrap (VO.tdiv 8)).toNat) 0) (i64.wrap (56 - i64.wrap (8*VO.tmod 8)))))))) else none else none else H (Ex.exit 4) (some (LA aQ cT)):=by kernel_rfl
theorem ZJ (fu:Nat) (aQ bA:List Int):M8 T0 R0 aG T1 R1 aN T2 R2 T3 R3 T4 R4 eV fu  (Ex.exit 4) (LA aQ bA)=some (AV.agg (.ints .u8 bA) 64):=by kernel_rfl
end
abbrev Dh:Cg:=tA (List UInt8) zU (λ t=>t) (List UInt8) rT (λ t=>t) (PUnit) CZ (PUnit) II (List Nat) IJ (λ t=>up t)
theorem aDj:CfOk prog Dh.c:=gk <| aA Me <| aA E3 <| aA aCS <| aA aKg <| aA aKj <| aK
abbrev pH:List Int:=[0,0,0,0,0,0,0,0,0,0,0,0,0,0,0,0,0,0,0,0,0,0,0,0,0,0,0,0,0,0,0,0,0,0,0,0,0,0,0,0,0,0,0,0,0,0,0,0,0,0,0,0,0,0,0,0,0,0,0,0,0,0,0,0]
theorem QV (l:List Nat):dn (up l)=l:=by
 rw [dn,up,KD];exact (Au λ n _=>bE n).trans (List.map_id _)
theorem aTh {l:List Nat} (h:∀ x ∈ l,x < 18446744073709551616):qR (up l)=true:=by
 induction l with
 | nil=>rfl
 | cons x r ih=>
  show (decide (0 <= (x:Int) /\ (x:Int) < 18446744073709551616) && qR (up r))=true;have:=h x (by simp);rw [aE (by omega),ih λ y hy=>h y (by simp [hy])]; rfl
theorem aKB {l:List Nat} (h:Db l):∀ x ∈ l,x < 18446744073709551616:=by
 intro x hx;obtain ⟨i,hi⟩:=PN.1 hx;have:=h i;rw [fU,hi] at this;exact this
theorem aDk {h:List Nat} {b:Str} (hl:h.length=8) (ok:Db h) (hb:b.length=128):IJ [.agg (.ints .u64 (up h)) 8,.s (.rptr (.ints .u64 (up kN)) 0 80),.str b]=some (zY h b):=by
 show cond (aCC (up h) && decide (up kN=up kN) && Nat.beq b.length 128) (some (zY (dn (up h)) b)) none=_;have e:aCC (up h)=true:=by rw [aCC,E7,hl,aTh (aKB ok)]; rfl
 rw [e,aE rfl,hb,QV]; rfl
theorem aDl (s t:List Nat):∀ i,(E5 s t i).length=s.length:=by
 intro i
 induction i with
 | zero=>rfl
 | succ i ih=>rw [E5,Fx,ih]
theorem aKC {s:List Nat} (t:List Nat) (h:Db s):∀ i,Db (E5 s t i):=by
 intro i
 induction i with
 | zero=>exact h
 | succ i ih=>exact V3 ih _ (M0 _)
theorem IR (n:Nat):∀ k,(be n k).length=k:=by
 intro k
 induction k with
 | zero=>rfl
 | succ k ih=>rw [be,i9,ih]; rfl
theorem ZK:CZ []=some ():=rfl
theorem aDm:II []=some ():=rfl
theorem Cb (s:Str) (n:Nat) (h:n <= 140737488355328) (h2:s.length*n <= y5):rT [.str s,.int .i64 (n:Int)]=some (Lib.repeatL s n):=by
 show cond (decide (0 <= (n:Int)) && decide ((n:Int) <= 140737488355328) && Nat.ble (s.length*(n:Int).toNat) y5) (some (Lib.repeatL s (n:Int).toNat)) none=_;rw [aE (by omega),aE (by omega),bE,show Nat.ble (s.length*n) y5=true by rw [lC]; exact h2]; rfl
theorem aDn (P:Str) (hP:P.length <= 4398046511104) (m:Nat) (hm:m < 18446744073709551616) (y:List Int) (fu:Nat):∀ (d n k:Nat),k+d=8->d < n ->
  eS prog Dh fu M3 (M4 _ zU (λ t=>t) _ rT (λ t=>t) _ CZ _ II _ IJ (λ t=>up t) fu) n (some (HF (P++be m k) (m:Int) (7 - (k:Int)) y)) =
   WA _ zU (λ t=>t) _ rT (λ t=>t) _ CZ _ II _ IJ (λ t=>up t) fu (P++be m 8) y (up hN) (up kN):=by
 intro d
 induction d with
 | zero=>
  intro n k hk hn;obtain ⟨n,rfl⟩:=aP (by omega:n ≠ 0);have:k=8:=by omega
  subst this;rw [aF,V9,aH (by decide),aD,aR,ZH,ZK,aC,aDm,aC]
 | succ d ih=>
  intro n k hk hn;obtain ⟨n,rfl⟩:=aP (by omega:n ≠ 0);have h:=ih n (k+1) (by omega) (by omega);have hl:=IR m k;have hix:i64.wrap ((8:Int)*(7 - (k:Int)))=((8*(7 - k):Nat):Int):=by rw [bY (by omega) (by omega)]; omega
  rw [aF,V9,aE (by omega),aB,hix,aH (by omega),aD,aE (by rw [i9,hl]; omega),aB,mX _ _ (by omega),Dn,bY (by omega) (by omega),lN];rw [show (7:Int) - (k:Int) - 1=7 - ((k+1:Nat):Int) by omega];exact h
theorem M9:Db hN:=by
 intro i;by_cases h:i < 8
 ·have:∀ i:Fin 8,hN.getD i.1 0 < 18446744073709551616:=by decide
  exact this ⟨i,h⟩
 ·rw [fU,At (by show 8 <= i; omega)]; decide
theorem LB {h:List Nat} (b:Str) (hl:h.length=8):(zY h b).length=8:=by rw [zY,aDl,hl]
theorem IU {h:List Nat} (b:Str) (ok:Db h):Db (zY h b):=aKC _ ok 8
theorem aDo (y:List Int) (fu:Nat):∀ (q n:Nat) (s:Str) (h:List Nat),s.length=128*q->h.length=8->Db h->s.length < 9223372036854775808->q < n ->
  eS prog Dh fu M5 (M6 _ zU (λ t=>t) _ rT (λ t=>t) _ CZ _ II _ IJ (λ t=>up t) fu) n (some (HG s y (up h) (up kN))) =
   WC _ zU (λ t=>t) _ rT (λ t=>t) _ CZ _ II _ IJ (λ t=>up t) fu 0 y (up (zZ h q s)) pH:=by
 intro q
 induction q with
 | zero=>
  intro n s h hs hl ok hb hn;obtain ⟨n,rfl⟩:=aP (by omega:n ≠ 0);have:s=[]:=oB (by omega);subst this;rw [aF,WB,aE rfl,jW,aD,aR,ZI]; rfl
 | succ q ih=>
  intro n s h hs hl ok hb hn;obtain ⟨n,rfl⟩:=aP (by omega:n ≠ 0);have hne:¬ s=[]:=λ e=>by rw [e] at hs; simp at hs
  have e1:sl s 0 128=s.take 128:=by rw [sl]; rfl
  have e2:sl s 128 (s.length:Int)=s.drop 128:=by
   rw [sl,fB]
   ·rfl
   rw [kX]; show s.length - 128 <= ((s.length:Int) - 128).toNat; omega
  have ht:(s.take 128).length=128:=by rw [dV]; omega
  rw [aF,WB,aH hne,lL,aB,aE (by omega),aB,e1,aDk hl ok ht,aC,aE (by omega),aB,e2];exact ih n (s.drop 128) (zY h (s.take 128)) (by rw [kX]; omega) (LB _ hl) (IU _ ok) (by rw [kX]; omega) (by omega)
theorem QW (h:List Nat) (k:Nat):(Ca h k).length=k:=by rw [Ca,iA,List.length_range]
theorem QX (h:List Nat) (i:Nat) (hi:i < 64):(up (Ca h i)++List.replicate (64 - i) 0).set i ((h.getD (i / 8) 0 / 2 ^ (56 - 8*(i%8))%256:Nat):Int)=up (Ca h (i+1))++List.replicate (64 - (i+1)) 0:=by
 have e:up (Ca h (i+1))=up (Ca h i)++[((h.getD (i / 8) 0 / 2 ^ (56 - 8*(i%8))%256:Nat):Int)]:=by
  rw [Ca,List.range_succ,vG,up,vG]; rfl
 have hl:(up (Ca h i)).length=i:=by rw [E7,QW]
 rw [e,Eb _ _ (by rw [hl]; omega),hl,i0,show 64 - i=64 - (i+1)+1 by omega,Fy,yS,lN]; rfl
theorem aDp (h:List Nat) (ok:Db h) (y:List Int) (fu:Nat):∀ (d n i:Nat),i+d=64->d < n ->
  eS prog Dh fu M7 (M8 _ zU (λ t=>t) _ rT (λ t=>t) _ CZ _ II _ IJ (λ t=>up t) fu) n (some (HH (i:Int) y (up h) (up (Ca h i)++List.replicate (64 - i) 0)))=some (.agg (.ints .u8 (up (Ca h 64))) 64):=by
 intro d
 induction d with
 | zero=>
  intro n i hi hn;obtain ⟨n,rfl⟩:=aP (by omega:n ≠ 0);have:i=64:=by omega
  subst this;rw [aF,WD,aH (by decide),aD,aR,ZJ,i0,uQ,i8]
 | succ d ih=>
  intro n i hi hn;obtain ⟨n,rfl⟩:=aP (by omega:n ≠ 0);have h':=ih n (i+1) (by omega) (by omega);have h1:((i:Nat):Int).tdiv 8=((i / 8:Nat):Int):=by rw [rF (by omega)]; omega
  have h2:((i:Nat):Int).tmod 8=((i%8:Nat):Int):=by rw [lM (by omega)]; omega
  have e1:i64.wrap (((i:Nat):Int).tdiv 8)=((i / 8:Nat):Int):=by rw [h1]; exact bY (by omega) (by omega)
  have e2:i64.wrap ((56:Int) - i64.wrap ((8:Int)*((i:Nat):Int).tmod 8))=((56 - 8*(i%8):Nat):Int):=by
   rw [h2,bY (n:=8*((i%8:Nat):Int)) (by omega) (by omega),bY (by omega) (by omega)]; omega
  rw [aF,WD,aE (by omega),aB,e1,e2,aE (by omega),aB,aH (by omega),aD,aE (by omega),aB,bE,bE,bS,bS,lX,mX _ _ (by omega),Dn,bY (by omega) (by omega),QX h i (by omega)];exact h'
theorem LC:∀ (q:Nat) (s:Str) (h:List Nat),Db h->Db (zZ h q s):=by
 intro q
 induction q with
 | zero=>intro s h ok; exact ok
 | succ q ih=>intro s h ok; exact ih _ _ (IU _ ok)
theorem HI (p:Nat):(Lib.repeatL ([0]:Str) p).length=p:=by rw [Lib.repeatL_length]; simp
theorem Di (t:Str):(DX t).length=t.length+1+(247 - t.length%128)%128:=by
 rw [DX,i9,i9,HI]; simp; omega
theorem QY (t:Str):(full t).length=128*((full t).length / 128):=by
 have:(full t).length=t.length+1+(247 - t.length%128)%128+8:=by rw [full,i9,Di,IR]
 omega
theorem IV (h:List Nat):up (Ca h 0)++List.replicate (64 - 0) 0=pH:=rfl
theorem aDq {ss:List Str} {n:Nat} (h:B9 ss n=true):zU [.s (.dat (.strs ss) n 1),.str []]=some (Lib.join ss []):=by
 simp only [B9,aX,lC] at h;show cond (Nat.beq n ss.length && Nat.ble ss.length y5 && Nat.ble (Lib.join ss []).length y5) (some (Lib.join ss [])) none=_;have a:Nat.ble ss.length y5=true:=by rw [lC]; exact cK h.1.2 (by decide)
 have b:Nat.ble (Lib.join ss []).length y5=true:=by rw [lC]; exact cK h.2 (by decide)
 rw [h.1.1,a,b]; rfl
theorem aTi (ss:List Str) (n:Nat) (h:B9 ss n=true) (fu:Nat) (hf:(full (Lib.join ss [])).length+100 < fu) :
  bB prog Tryz.f179 Dh fu [.s (.dat (.strs ss) n 1)]=some (.agg (.ints .u8 (up (Mr (Lib.join ss [])))) 64):=by
 refine (aKA ..).trans ?_;rw [aDq h,aC];simp only [B9,aX,lC] at h;have hb:=h.2;generalize Lib.join ss []=t at hb hf ⊢;have hp:(i64.wrap ((247:Int) - ((t.length:Nat):Int).tmod 128)).tmod 128=(((247 - t.length%128)%128:Nat):Int):=by
  have h2:((t.length:Nat):Int).tmod 128=((t.length%128:Nat):Int):=by rw [lM (by omega)]; omega
  rw [h2,bY (by omega) (by omega),show (247:Int) - ((t.length%128:Nat):Int)=((247 - t.length%128:Nat):Int) by omega,lM (by omega)]; omega
 have hr:=HI ((247 - t.length%128)%128);rw [hp,Cb _ _ (by omega) (cK (show 1*((247 - t.length%128)%128) <= 128 by omega) (by decide)),aC,aE (by omega),aB,aE (by rw [i9,hr]; show t.length+(1+_) <= _; omega),aB];have hw:u64.wrap (u64.wrap ((t.length:Nat):Int)*8)=((t.length*8:Nat):Int):=by
  rw [fN,aV (by omega),show ((t.length:Nat):Int)*8=((t.length*8:Nat):Int) by omega,fN,aV (by omega)]
 rw [hw];have hl:=Di t;have a:=aDn (DX t) (by omega) (t.length*8) (by omega) pH fu 8 fu 0 (by omega) (by omega);have fl:=QY t;have b:=aDo pH fu ((full t).length / 128) fu (full t) hN fl rfl M9 (by rw [full,i9,IR]; omega) (by omega);have c:=aDp (zZ hN ((full t).length / 128) (full t)) (LC _ _ _ M9) pH fu 64 fu 0 (by omega) (by omega);rw [IV] at c;rw [show DX t++be (t.length*8) 0=DX t from i8 _] at a;exact iR a (iR b c)
theorem TU:CallOk prog 179 aCE:=by
 refine aZ (fu:=λ args=>match args with | [.c (.s (.dat (.strs ss) n 1))]=>(full (Lib.join ss [])).length+101 | _=>0) aDj Tryz.func179 ?_;intro args t ht;unfold aCE at ht;simp only at ht;split at ht
 ·rename_i ss n;obtain ⟨h1,h2⟩:=cC ht;subst h2;exact aTi ss n h1 _ (lD _)
 ·cases ht
def aDr:Summ where
 T:=Str
 run:=λ
  | [.c (.s (.pl (.agg (.ints .u8 a) 64)))]=>cond (Nat.beq a.length 64) (some (a.map b8)) none
  | _=>none
 enc:=λ t=>.str t
def aDs:FA Str:=aDr.run
section
variable (T0:Type) (R0:FA T0) (aG:T0->List Int)
end
section
variable (T0:Type) (R0:FA T0) (T1:Type) (R1:FA T1) (aN:T1->Int)
def dZ:Cg:=⟨⟨dD [(238,⟨R0,λ t=>AV.s (.dat (.ints .u64 (up kN)) (80) 1)⟩),(239,⟨R1,λ t=>AV.int .u64 (aN t)⟩)],[26,53],dS⟩,[(5,[2,3,4],[2,3,4]),(8,[2,3,4,5],[2,3]),(14,[2,3,6,7,8],[2,6]),(18,[2,3,6,7,8,9,10],[2,3,6,7,8,9]),(21,[2,3,6,7,8,9,10,11],[2,3,6,7,8,9,10]),(25,[2,3,6,7,8,9,12],[2,3,6,7,8,9]),(32,[2,3,6,7,8,9,15,16],[2,3,6,7,8,15]),(41,[2,3,6,7,8,15,22],[2,3,6,7,8]),(46,[2,6,23,24],[2,23])]⟩
def HJ (n3:Nat) (v4:Int) (aQ:List Int) (dP:Nat) (bA:List Int):St:={ tm:=[(2,.s (.ptr 0 0 64)),(3,.s (.own 1 n3 1)),(4,.int .u64 v4)],hp:=[(0,{ ty:=209,n:=64,row:=Row.t (.ints .u8 aQ) }),(1,{ ty:=5,n:=dP,row:=Row.t (.ints .u8 bA) })],nx:=2,sz:=327 }
def NA:Code:=cM (bN [1,1,1,1,0,2] (bD Tryz.f231))
def NB (fu:Nat):=lO prog (dZ T0 R0 T1 R1 aN) fu [1,1,1,1,0,2] (bD Tryz.f231) (fQ prog Tryz.f231)
abbrev aKD (fu:Nat) (n3:Nat) (v4:Int) (aQ:List Int) (dP:Nat) (bA:List Int):=eS prog (dZ T0 R0 T1 R1 aN) fu NA (NB T0 R0 T1 R1 aN fu ) fu (some (HJ n3 v4 aQ dP bA))
theorem aKE (fu:Nat) (s:Str):bB prog Tryz.f231 (dZ T0 R0 T1 R1 aN) fu [.str s]=bif decide (List.length s <= 1099511627776) then bif decide (List.length s+1 <= 1099511627776) then aKD T0 R0 T1 R1 aN fu (List.length s+1) (u64.wrap (u64.wrap (↑(List.length s):Int)*8)) [0,0,0,0,0,0,0,0,0,0,0,0,0,0,0,0,0,0,0,0,0,0,0,0,0,0,0,0,0,0,0,0,0,0,0,0,0,0,0,0,0,0,0,0,0,0,0,0,0,0,0,0,0,0,0,0,0,0,0,0,0,0,0,0] ((List.length s+1)*1) (List.map lP s++[128]) else none else none:=by kernel_rfl
def LD (n3:Nat) (v4:Int) (aQ:List Int) (dP:Nat) (bA:List Int):St:={ tm:=[(2,.s (.ptr 0 0 64)),(3,.s (.own 1 n3 1)),(4,.int .u64 v4)],hp:=[(0,{ ty:=209,n:=64,row:=Row.t (.ints .u8 aQ) }),(1,{ ty:=5,n:=dP,row:=Row.t (.ints .u8 bA) })],nx:=2,sz:=327 }
theorem WE {β:Type} (fu:Nat) (G:FG β) (H:FH β) (n3:Nat) (v4:Int) (aQ:List Int) (dP:Nat) (bA:List Int):fI prog (dZ T0 R0 T1 R1 aN) fu NA G H (HJ n3 v4 aQ dP bA)=bif !decide ((n3:Int).tmod (128:Int)=120) then bif decide (n3+1 <= 1099511627776) then G (some (HJ (n3+1) v4 aQ ((n3+1)*1) (bA++[0]))) else none else H (Ex.exit 0) (some (LD n3 v4 aQ dP bA)):=by kernel_rfl
def HK (n3:Nat) (v4 v5:Int) (aQ:List Int) (dP:Nat) (bA:List Int):St:={ tm:=[(2,.s (.ptr 0 0 64)),(3,.s (.own 1 n3 1)),(4,.int .u64 v4),(5,.int .i64 v5)],hp:=[(0,{ ty:=209,n:=64,row:=Row.t (.ints .u8 aQ) }),(1,{ ty:=5,n:=dP,row:=Row.t (.ints .u8 bA) })],nx:=2,sz:=327 }
def NC:Code:=cM (bN [1,1,1,1,1,0,1,2] (bD Tryz.f231))
def ND (fu:Nat):=lO prog (dZ T0 R0 T1 R1 aN) fu [1,1,1,1,1,0,1,2] (bD Tryz.f231) (fQ prog Tryz.f231)
abbrev WF (fu:Nat) (n3:Nat) (v4 v5:Int) (aQ:List Int) (dP:Nat) (bA:List Int):=eS prog (dZ T0 R0 T1 R1 aN) fu NC (ND T0 R0 T1 R1 aN fu ) fu (some (HK n3 v4 v5 aQ dP bA))
theorem ZL (fu:Nat) (n3:Nat) (v4:Int) (aQ:List Int) (dP:Nat) (bA:List Int):NB T0 R0 T1 R1 aN fu  (Ex.exit 0) (LD n3 v4 aQ dP bA)=WF T0 R0 T1 R1 aN fu n3 v4 7 aQ dP bA:=by kernel_rfl
def LE (n3:Nat) (aQ:List Int) (dP:Nat) (bA:List Int):St:={ tm:=[(2,.s (.ptr 0 0 64)),(3,.s (.own 1 n3 1))],hp:=[(0,{ ty:=209,n:=64,row:=Row.t (.ints .u8 aQ) }),(1,{ ty:=5,n:=dP,row:=Row.t (.ints .u8 bA) })],nx:=2,sz:=327 }
theorem WG {β:Type} (fu:Nat) (G:FG β) (H:FH β) (n3:Nat) (v4 v5:Int) (aQ:List Int) (dP:Nat) (bA:List Int):fI prog (dZ T0 R0 T1 R1 aN) fu NC G H (HK n3 v4 v5 aQ dP bA)=bif decide (0 <= v5) then bif decide (i64.wrap (8*v5) < 0) then none else bif decide (n3+1 <= 1099511627776) then G (some (HK (n3+1) v4 (i64.wrap (v5 - 1)) aQ ((n3+1)*1) (bA++[u8.wrap (eK .u64 v4 (i64.wrap (8*v5)))]))) else none else H (Ex.exit 2) (some (LE n3 aQ dP bA)):=by kernel_rfl
def Dj (n3 n6:Nat) (x7:List Int) (n7:Nat) (v8:Int) (aQ:List Int) (dP:Nat) (bA:List Int) (iM:Nat) (cT:List Int):St:={ tm:=[(2,.s (.ptr 0 0 64)),(3,.s (.own 1 n3 1)),(6,.s (.own 2 n6 1)),(7,.s (.dat (.ints .u64 x7) n7 1)),(8,.int .i64 v8)],hp:=[(0,{ ty:=209,n:=64,row:=Row.t (.ints .u8 aQ) }),(1,{ ty:=5,n:=dP,row:=Row.t (.ints .u8 bA) }),(2,{ ty:=30,n:=iM,row:=Row.t (.ints .u64 cT) })],nx:=3,sz:=327 }
def jC:Code:=cM (bN [1,1,1,1,1,1,1,1,0,1,2] (bD Tryz.f231))
def nK (fu:Nat):=lO prog (dZ T0 R0 T1 R1 aN) fu [1,1,1,1,1,1,1,1,0,1,2] (bD Tryz.f231) (fQ prog Tryz.f231)
abbrev WH (fu:Nat) (n3 n6:Nat) (x7:List Int) (n7:Nat) (v8:Int) (aQ:List Int) (dP:Nat) (bA:List Int) (iM:Nat) (cT:List Int):=eS prog (dZ T0 R0 T1 R1 aN) fu jC (nK T0 R0 T1 R1 aN fu ) fu (some (Dj n3 n6 x7 n7 v8 aQ dP bA iM cT))
theorem ZM (fu:Nat) (n3:Nat) (aQ:List Int) (dP:Nat) (bA:List Int):ND T0 R0 T1 R1 aN fu  (Ex.exit 2) (LE n3 aQ dP bA)=(R0 []).bind λ t=>WH T0 R0 T1 R1 aN fu n3 8 (up kN) 80 0 aQ dP bA 8 ([7640891576956012808]++([13503953896175478587]++([4354685564936845355]++([11912009170470909681]++([5840696475078001361]++([11170449401992604703]++([2270897969802886507]++[6620516959819538809]))))))):=by kernel_rfl
def Dk (n3 n6:Nat) (x7:List Int) (n7:Nat) (v8:Int) (n9:Nat) (fP:Int) (aQ:List Int) (dP:Nat) (bA:List Int) (iM:Nat) (cT:List Int) (tT:Nat) (gI:List Int):St:={ tm:=[(2,.s (.ptr 0 0 64)),(3,.s (.own 1 n3 1)),(6,.s (.own 2 n6 1)),(7,.s (.dat (.ints .u64 x7) n7 1)),(8,.int .i64 v8),(9,.s (.own 3 n9 1)),(10,.int .i64 fP)],hp:=[(0,{ ty:=209,n:=64,row:=Row.t (.ints .u8 aQ) }),(1,{ ty:=5,n:=dP,row:=Row.t (.ints .u8 bA) }),(2,{ ty:=30,n:=iM,row:=Row.t (.ints .u64 cT) }),(3,{ ty:=30,n:=tT,row:=Row.t (.ints .u64 gI) })],nx:=4,sz:=327 }
def A7:Code:=cM (bN [1,1,1,1,1,1,1,1,0,1,2,6,1,0,2,1,0,1,2] (bD Tryz.f231))
def Dl {β:Type} (fu:Nat) (G:FG β) (H:FH β):=lO prog (dZ T0 R0 T1 R1 aN) fu [1,0,2,1,0,1,2] jC (uZ (dZ T0 R0 T1 R1 aN) jC G H)
abbrev aKF {β:Type} (fu:Nat) (G:FG β) (H:FH β) (n3 n6:Nat) (x7:List Int) (n7:Nat) (v8:Int) (n9:Nat) (fP:Int) (aQ:List Int) (dP:Nat) (bA:List Int) (iM:Nat) (cT:List Int) (tT:Nat) (gI:List Int):=eS prog (dZ T0 R0 T1 R1 aN) fu A7 (Dl T0 R0 T1 R1 aN fu G H) fu (some (Dk n3 n6 x7 n7 v8 n9 fP aQ dP bA iM cT tT gI))
def LF (n6:Nat) (aQ:List Int) (dP:Nat) (bA:List Int):St:={ tm:=[(2,.s (.ptr 0 0 64)),(6,.s (.own 1 n6 1))],hp:=[(0,{ ty:=209,n:=64,row:=Row.t (.ints .u8 aQ) }),(1,{ ty:=30,n:=dP,row:=Row.t (.ints .u64 bA) })],nx:=2,sz:=327 }
theorem WI {β:Type} (fu:Nat) (G:FG β) (H:FH β) (n3 n6:Nat) (x7:List Int) (n7:Nat) (v8:Int) (aQ:List Int) (dP:Nat) (bA:List Int) (iM:Nat) (cT:List Int):fI prog (dZ T0 R0 T1 R1 aN) fu jC G H (Dj n3 n6 x7 n7 v8 aQ dP bA iM cT)=bif decide (v8 < (n3:Int)) then aKF T0 R0 T1 R1 aN fu G H n3 n6 x7 n7 v8 80 0 aQ dP bA iM cT 80 (List.replicate 80 0) else H (Ex.exit 4) (some (LF n6 aQ iM cT)):=by kernel_rfl
def HL (n3 n6:Nat) (x7:List Int) (n7:Nat) (v8:Int) (n9:Nat) (fP gE:Int) (aQ:List Int) (dP:Nat) (bA:List Int) (iM:Nat) (cT:List Int) (tT:Nat) (gI:List Int):St:={ tm:=[(2,.s (.ptr 0 0 64)),(3,.s (.own 1 n3 1)),(6,.s (.own 2 n6 1)),(7,.s (.dat (.ints .u64 x7) n7 1)),(8,.int .i64 v8),(9,.s (.own 3 n9 1)),(10,.int .i64 fP),(11,.int .i64 gE)],hp:=[(0,{ ty:=209,n:=64,row:=Row.t (.ints .u8 aQ) }),(1,{ ty:=5,n:=dP,row:=Row.t (.ints .u8 bA) }),(2,{ ty:=30,n:=iM,row:=Row.t (.ints .u64 cT) }),(3,{ ty:=30,n:=tT,row:=Row.t (.ints .u64 gI) })],nx:=4,sz:=327 }
def NE:Code:=cM (bN [1,1,1,1,1,1,1,1,0,1,2,6,1,0,2,1,0,1,2,6,1,0,2,1,2] (bD Tryz.f231))
def NF {β:Type} (fu:Nat) (G:FG β) (H:FH β):=lO prog (dZ T0 R0 T1 R1 aN) fu [1,0,2,1,2] A7 (uZ (dZ T0 R0 T1 R1 aN) A7 G H)
abbrev aKG {β:Type} (fu:Nat) (G:FG β) (H:FH β) (n3 n6:Nat) (x7:List Int) (n7:Nat) (v8:Int) (n9:Nat) (fP gE:Int) (aQ:List Int) (dP:Nat) (bA:List Int) (iM:Nat) (cT:List Int) (tT:Nat) (gI:List Int):=eS prog (dZ T0 R0 T1 R1 aN) fu NE (NF T0 R0 T1 R1 aN fu G H) fu (some (HL n3 n6 x7 n7 v8 n9 fP gE aQ dP bA iM cT tT gI))
def LG (n3 n6:Nat) (x7:List Int) (n7:Nat) (v8:Int) (n9:Nat) (aQ:List Int) (dP:Nat) (bA:List Int) (iM:Nat) (cT:List Int) (tT:Nat) (gI:List Int):St:={ tm:=[(2,.s (.ptr 0 0 64)),(3,.s (.own 1 n3 1)),(6,.s (.own 2 n6 1)),(7,.s (.dat (.ints .u64 x7) n7 1)),(8,.int .i64 v8),(9,.s (.own 3 n9 1))],hp:=[(0,{ ty:=209,n:=64,row:=Row.t (.ints .u8 aQ) }),(1,{ ty:=5,n:=dP,row:=Row.t (.ints .u8 bA) }),(2,{ ty:=30,n:=iM,row:=Row.t (.ints .u64 cT) }),(3,{ ty:=30,n:=tT,row:=Row.t (.ints .u64 gI) })],nx:=4,sz:=327 }
theorem WJ {β:Type} (fu:Nat) (G:FG β) (H:FH β) (n3 n6:Nat) (x7:List Int) (n7:Nat) (v8:Int) (n9:Nat) (fP:Int) (aQ:List Int) (dP:Nat) (bA:List Int) (iM:Nat) (cT:List Int) (tT:Nat) (gI:List Int):fI prog (dZ T0 R0 T1 R1 aN) fu A7 G H (Dk n3 n6 x7 n7 v8 n9 fP aQ dP bA iM cT tT gI)=bif decide (fP < 16) then aKG T0 R0 T1 R1 aN fu G H n3 n6 x7 n7 v8 n9 fP 0 aQ dP bA iM cT tT gI else H (Ex.exit 6) (some (LG n3 n6 x7 n7 v8 n9 aQ dP bA iM cT tT gI)):=by kernel_rfl
def HM (n6:Nat) (Si:Int) (aQ:List Int) (dP:Nat) (bA cT:List Int):St:={ tm:=[(2,.s (.ptr 0 0 64)),(6,.s (.own 1 n6 1)),(23,.s (.ptr 2 0 64)),(24,.int .i64 Si)],hp:=[(0,{ ty:=209,n:=64,row:=Row.t (.ints .u8 aQ) }),(1,{ ty:=30,n:=dP,row:=Row.t (.ints .u64 bA) }),(2,{ ty:=209,n:=64,row:=Row.t (.ints .u8 cT) })],nx:=3,sz:=327 }
def NG:Code:=cM (bN [1,1,1,1,1,1,1,1,1,1,0,1,2] (bD Tryz.f231))
def NH (fu:Nat):=lO prog (dZ T0 R0 T1 R1 aN) fu [1,1,1,1,1,1,1,1,1,1,0,1,2] (bD Tryz.f231) (fQ prog Tryz.f231)
abbrev WK (fu:Nat) (n6:Nat) (Si:Int) (aQ:List Int) (dP:Nat) (bA cT:List Int):=eS prog (dZ T0 R0 T1 R1 aN) fu NG (NH T0 R0 T1 R1 aN fu ) fu (some (HM n6 Si aQ dP bA cT))
theorem ZN (fu:Nat) (n6:Nat) (aQ:List Int) (dP:Nat) (bA:List Int):nK T0 R0 T1 R1 aN fu  (Ex.exit 4) (LF n6 aQ dP bA)=WK T0 R0 T1 R1 aN fu n6 0 aQ dP bA [0,0,0,0,0,0,0,0,0,0,0,0,0,0,0,0,0,0,0,0,0,0,0,0,0,0,0,0,0,0,0,0,0,0,0,0,0,0,0,0,0,0,0,0,0,0,0,0,0,0,0,0,0,0,0,0,0,0,0,0,0,0,0,0]:=by kernel_rfl
def LH (n3 n6:Nat) (x7:List Int) (n7:Nat) (v8:Int) (n9:Nat) (fP:Int) (aQ:List Int) (dP:Nat) (bA:List Int) (iM:Nat) (cT:List Int) (tT:Nat) (gI:List Int):St:={ tm:=[(2,.s (.ptr 0 0 64)),(3,.s (.own 1 n3 1)),(6,.s (.own 2 n6 1)),(7,.s (.dat (.ints .u64 x7) n7 1)),(8,.int .i64 v8),(9,.s (.own 3 n9 1)),(10,.int .i64 fP)],hp:=[(0,{ ty:=209,n:=64,row:=Row.t (.ints .u8 aQ) }),(1,{ ty:=5,n:=dP,row:=Row.t (.ints .u8 bA) }),(2,{ ty:=30,n:=iM,row:=Row.t (.ints .u64 cT) }),(3,{ ty:=30,n:=tT,row:=Row.t (.ints .u64 gI) })],nx:=4,sz:=327 }
theorem WL {β:Type} (fu:Nat) (G:FG β) (H:FH β) (n3 n6:Nat) (x7:List Int) (n7:Nat) (v8:Int) (n9:Nat) (fP gE:Int) (aQ:List Int) (dP:Nat) (bA:List Int) (iM:Nat) (cT:List Int) (tT:Nat) (gI:List Int):fI prog (dZ T0 R0 T1 R1 aN) fu NE G H (HL n3 n6 x7 n7 v8 n9 fP gE aQ dP bA iM cT tT gI)=bif decide (gE < 8) then bif decide (0 <= fP /\ fP < (n9:Int)) then bif decide (0 <= i64.wrap (i64.wrap (v8+i64.wrap (8*fP))+gE) /\ i64.wrap (i64.wrap (v8+i64.wrap (8*fP))+gE) < (n3:Int)) then bif decide (0 <= fP /\ fP < (n9:Int)) then G (some (HL n3 n6 x7 n7 v8 n9 fP (i64.wrap (gE+1)) aQ dP bA iM cT tT (gI.set fP.toNat (u64.wrap (u64.wrap (gI.getD fP.toNat 0*256)+u64.wrap (bA.getD (i64.wrap (i64.wrap (v8+i64.wrap (8*fP))+gE)).toNat 0)))))) else none else none else none else H (Ex.exit 8) (some (LH n3 n6 x7 n7 v8 n9 fP aQ dP bA iM cT tT gI)):=by kernel_rfl
def HN (n3 n6:Nat) (x7:List Int) (n7:Nat) (v8:Int) (n9:Nat) (gU:Int) (aQ:List Int) (dP:Nat) (bA:List Int) (iM:Nat) (cT:List Int) (tT:Nat) (gI:List Int):St:={ tm:=[(2,.s (.ptr 0 0 64)),(3,.s (.own 1 n3 1)),(6,.s (.own 2 n6 1)),(7,.s (.dat (.ints .u64 x7) n7 1)),(8,.int .i64 v8),(9,.s (.own 3 n9 1)),(12,.int .i64 gU)],hp:=[(0,{ ty:=209,n:=64,row:=Row.t (.ints .u8 aQ) }),(1,{ ty:=5,n:=dP,row:=Row.t (.ints .u8 bA) }),(2,{ ty:=30,n:=iM,row:=Row.t (.ints .u64 cT) }),(3,{ ty:=30,n:=tT,row:=Row.t (.ints .u64 gI) })],nx:=4,sz:=327 }
def NI:Code:=cM (bN [1,1,1,1,1,1,1,1,0,1,2,6,1,0,2,1,1,0,1,2] (bD Tryz.f231))
def NJ {β:Type} (fu:Nat) (G:FG β) (H:FH β):=lO prog (dZ T0 R0 T1 R1 aN) fu [1,0,2,1,1,0,1,2] jC (uZ (dZ T0 R0 T1 R1 aN) jC G H)
abbrev WM {β:Type} (fu:Nat) (G:FG β) (H:FH β) (n3 n6:Nat) (x7:List Int) (n7:Nat) (v8:Int) (n9:Nat) (gU:Int) (aQ:List Int) (dP:Nat) (bA:List Int) (iM:Nat) (cT:List Int) (tT:Nat) (gI:List Int):=eS prog (dZ T0 R0 T1 R1 aN) fu NI (NJ T0 R0 T1 R1 aN fu G H) fu (some (HN n3 n6 x7 n7 v8 n9 gU aQ dP bA iM cT tT gI))
theorem ZO {β:Type} (fu:Nat) (G:FG β) (H:FH β) (n3 n6:Nat) (x7:List Int) (n7:Nat) (v8:Int) (n9:Nat) (aQ:List Int) (dP:Nat) (bA:List Int) (iM:Nat) (cT:List Int) (tT:Nat) (gI:List Int):Dl T0 R0 T1 R1 aN fu G H (Ex.exit 6) (LG n3 n6 x7 n7 v8 n9 aQ dP bA iM cT tT gI)=WM T0 R0 T1 R1 aN fu G H n3 n6 x7 n7 v8 n9 16 aQ dP bA iM cT tT gI:=by kernel_rfl
def IW (aQ bA:List Int):St:={ tm:=[(2,.s (.ptr 0 0 64)),(23,.s (.ptr 1 0 64))],hp:=[(0,{ ty:=209,n:=64,row:=Row.t (.ints .u8 aQ) }),(1,{ ty:=209,n:=64,row:=Row.t (.ints .u8 bA) })],nx:=2,sz:=327 }
theorem WN {β:Type} (fu:Nat) (G:FG β) (H:FH β) (n6:Nat) (Si:Int) (aQ:List Int) (dP:Nat) (bA cT:List Int):fI prog (dZ T0 R0 T1 R1 aN) fu NG G H (HM n6 Si aQ dP bA cT)=bif decide (Si < 64) then bif decide (0 <= i64.wrap (Si.tdiv 8) /\ i64.wrap (Si.tdiv 8) < (n6:Int)) then bif decide (i64.wrap (56 - i64.wrap (8*Si.tmod 8)) < 0) then none else bif decide (0 <= Si /\ Si < 64) then G (some (HM n6 (i64.wrap (Si+1)) aQ dP bA (cT.set (0+Si.toNat) (u8.wrap (eK .u64 (bA.getD (i64.wrap (Si.tdiv 8)).toNat 0) (i64.wrap (56 - i64.wrap (8*Si.tmod 8)))))))) else none else none else H (Ex.exit 16) (some (IW aQ cT)):=by kernel_rfl
theorem ZP {β:Type} (fu:Nat) (G:FG β) (H:FH β) (n3 n6:Nat) (x7:List Int) (n7:Nat) (v8:Int) (n9:Nat) (fP:Int) (aQ:List Int) (dP:Nat) (bA:List Int) (iM:Nat) (cT:List Int) (tT:Nat) (gI:List Int):NF T0 R0 T1 R1 aN fu G H (Ex.exit 8) (LH n3 n6 x7 n7 v8 n9 fP aQ dP bA iM cT tT gI)=G (some (Dk n3 n6 x7 n7 v8 n9 (i64.wrap (fP+1)) aQ dP bA iM cT tT gI)):=by kernel_rfl
def IX (n3 n6:Nat) (x7:List Int) (n7:Nat) (v8:Int) (n9:Nat) (aQ:List Int) (dP:Nat) (bA:List Int) (iM:Nat) (cT:List Int) (tT:Nat) (gI:List Int):St:={ tm:=[(2,.s (.ptr 0 0 64)),(3,.s (.own 1 n3 1)),(6,.s (.own 2 n6 1)),(7,.s (.dat (.ints .u64 x7) n7 1)),(8,.int .i64 v8),(9,.s (.own 3 n9 1))],hp:=[(0,{ ty:=209,n:=64,row:=Row.t (.ints .u8 aQ) }),(1,{ ty:=5,n:=dP,row:=Row.t (.ints .u8 bA) }),(2,{ ty:=30,n:=iM,row:=Row.t (.ints .u64 cT) }),(3,{ ty:=30,n:=tT,row:=Row.t (.ints .u64 gI) })],nx:=4,sz:=327 }
theorem WO {β:Type} (fu:Nat) (G:FG β) (H:FH β) (n3 n6:Nat) (x7:List Int) (n7:Nat) (v8:Int) (n9:Nat) (gU:Int) (aQ:List Int) (dP:Nat) (bA:List Int) (iM:Nat) (cT:List Int) (tT:Nat) (gI:List Int):fI prog (dZ T0 R0 T1 R1 aN) fu NI G H (HN n3 n6 x7 n7 v8 n9 gU aQ dP bA iM cT tT gI)=bif decide (gU < 80) then bif decide (0 <= i64.wrap (gU - 15) /\ i64.wrap (gU - 15) < (n9:Int)) then (R1 [.int .u64 (gI.getD (i64.wrap (gU - 15)).toNat 0),.int .i64 1]).bind λ t=>bif decide (0 <= i64.wrap (gU - 15) /\ i64.wrap (gU - 15) < (n9:Int)) then (R1 [.int .u64 (gI.getD (i64.wrap (gU - 15)).toNat 0),.int .i64 8]).bind λ dH=>bif decide (0 <= i64.wrap (gU - 15) /\ i64.wrap (gU - 15) < (n9:Int)) then bif decide (0 <= i64.wrap (gU - 2) /\ i64.wrap (gU - 2) < (n9:Int)) then (R1 [.int .u64 (gI.getD (i64.wrap (gU - 2)).toNat 0),.int .i64 19]).bind λ eU=>bif decide (0 <= i64.wrap (gU - 2) /\ i64.wrap (gU - 2) < (n9:Int)) then (R1 [.int .u64 (gI.getD (i64.wrap (gU - 2)).toNat 0),.int .i64 61]).bind λ gF=>bif decide (0 <= i64.wrap (gU - 2) /\ i64.wrap (gU - 2) < (n9:Int)) then bif decide (0 <= i64.wrap (gU - 16) /\ i64.wrap (gU - 16) < (n9:Int)) then bif decide (0 <= i64.wrap (gU - 7) /\ i64.wrap (gU - 7) < (n9:Int)) then bif decide (0 <= gU /\ gU < (n9:Int)) then G (some (HN n3 n6 x7 n7 v8 n9 (i64.wrap (gU+1)) aQ dP bA iM cT tT (gI.set gU.toNat (u64.wrap (u64.wrap (u64.wrap (gI.getD (i64.wrap (gU - 16)).toNat 0+fL .u64 (fL .u64 (aN t) (aN dH)) (eK .u64 (gI.getD (i64.wrap (gU - 15)).toNat 0) 7))+gI.getD (i64.wrap (gU - 7)).toNat 0)+fL .u64 (fL .u64 (aN eU) (aN gF)) (eK .u64 (gI.getD (i64.wrap (gU - 2)).toNat 0) 6)))))) else none else none else none else none else none else none else none else none else none else H (Ex.exit 10) (some (IX n3 n6 x7 n7 v8 n9 aQ dP bA iM cT tT gI)):=by kernel_rfl
theorem TV (fu:Nat) (aQ bA:List Int):NH T0 R0 T1 R1 aN fu  (Ex.exit 16) (IW aQ bA)=some (AV.agg (.ints .u8 bA) 64):=by kernel_rfl
def HO (n3 n6:Nat) (x7:List Int) (n7:Nat) (v8:Int) (n9:Nat) (x15:List Int) (n15:Nat) (B2:Int) (aQ:List Int) (dP:Nat) (bA:List Int) (iM:Nat) (cT:List Int) (tT:Nat) (gI:List Int):St:={ tm:=[(2,.s (.ptr 0 0 64)),(3,.s (.own 1 n3 1)),(6,.s (.own 2 n6 1)),(7,.s (.dat (.ints .u64 x7) n7 1)),(8,.int .i64 v8),(9,.s (.own 3 n9 1)),(15,.s (.dat (.ints .u64 x15) n15 1)),(16,.int .i64 B2)],hp:=[(0,{ ty:=209,n:=64,row:=Row.t (.ints .u8 aQ) }),(1,{ ty:=5,n:=dP,row:=Row.t (.ints .u8 bA) }),(2,{ ty:=30,n:=iM,row:=Row.t (.ints .u64 cT) }),(3,{ ty:=30,n:=tT,row:=Row.t (.ints .u64 gI) })],nx:=4,sz:=327 }
def NK:Code:=cM (bN [1,1,1,1,1,1,1,1,0,1,2,6,1,0,2,1,1,1,1,0,1,2] (bD Tryz.f231))
def NL {β:Type} (fu:Nat) (G:FG β) (H:FH β):=lO prog (dZ T0 R0 T1 R1 aN) fu [1,0,2,1,1,1,1,0,1,2] jC (uZ (dZ T0 R0 T1 R1 aN) jC G H)
abbrev WP {β:Type} (fu:Nat) (G:FG β) (H:FH β) (n3 n6:Nat) (x7:List Int) (n7:Nat) (v8:Int) (n9:Nat) (x15:List Int) (n15:Nat) (B2:Int) (aQ:List Int) (dP:Nat) (bA:List Int) (iM:Nat) (cT:List Int) (tT:Nat) (gI:List Int):=eS prog (dZ T0 R0 T1 R1 aN) fu NK (NL T0 R0 T1 R1 aN fu G H) fu (some (HO n3 n6 x7 n7 v8 n9 x15 n15 B2 aQ dP bA iM cT tT gI))
theorem TW {β:Type} (fu:Nat) (G:FG β) (H:FH β) (n3 n6:Nat) (x7:List Int) (n7:Nat) (v8:Int) (n9:Nat) (aQ:List Int) (dP:Nat) (bA:List Int) (iM:Nat) (cT:List Int) (tT:Nat) (gI:List Int):NJ T0 R0 T1 R1 aN fu G H (Ex.exit 10) (IX n3 n6 x7 n7 v8 n9 aQ dP bA iM cT tT gI)=bif decide ((0:Int) <= 0 /\ 0 < (n6:Int)) then bif decide ((0:Int) <= 1 /\ 1 < (n6:Int)) then bif decide ((0:Int) <= 2 /\ 2 < (n6:Int)) then bif decide ((0:Int) <= 3 /\ 3 < (n6:Int)) then bif decide ((0:Int) <= 4 /\ 4 < (n6:Int)) then bif decide ((0:Int) <= 5 /\ 5 < (n6:Int)) then bif decide ((0:Int) <= 6 /\ 6 < (n6:Int)) then bif decide ((0:Int) <= 7 /\ 7 < (n6:Int)) then WP T0 R0 T1 R1 aN fu G H n3 n6 x7 n7 v8 n9 ([cT.getD 0 0]++([cT.getD 1 0]++([cT.getD 2 0]++([cT.getD 3 0]++([cT.getD 4 0]++([cT.getD 5 0]++([cT.getD 6 0]++[cT.getD 7 0]))))))) 8 0 aQ dP bA iM cT tT gI else none else none else none else none else none else none else none else none:=by kernel_rfl
def IY (n3 n6:Nat) (x7:List Int) (n7:Nat) (v8:Int) (x15:List Int) (n15:Nat) (aQ:List Int) (dP:Nat) (bA:List Int) (iM:Nat) (cT:List Int):St:={ tm:=[(2,.s (.ptr 0 0 64)),(3,.s (.own 1 n3 1)),(6,.s (.own 2 n6 1)),(7,.s (.dat (.ints .u64 x7) n7 1)),(8,.int .i64 v8),(15,.s (.dat (.ints .u64 x15) n15 1))],hp:=[(0,{ ty:=209,n:=64,row:=Row.t (.ints .u8 aQ) }),(1,{ ty:=5,n:=dP,row:=Row.t (.ints .u8 bA) }),(2,{ ty:=30,n:=iM,row:=Row.t (.ints .u64 cT) })],nx:=3,sz:=327 }
theorem WQ {β:Type} (fu:Nat) (G:FG β) (H:FH β) (n3 n6:Nat) (x7:List Int) (n7:Nat) (v8:Int) (n9:Nat) (x15:List Int) (n15:Nat) (B2:Int) (aQ:List Int) (dP:Nat) (bA:List Int) (iM:Nat) (cT:List Int) (tT:Nat) (gI:List Int):fI prog (dZ T0 R0 T1 R1 aN) fu NK G H (HO n3 n6 x7 n7 v8 n9 x15 n15 B2 aQ dP bA iM cT tT gI)=bif decide (B2 < 80) then bif decide ((0:Int) <= 4 /\ 4 < (n15:Int)) then (R1 [.int .u64 (x15.getD 4 0),.int .i64 14]).bind λ t=>bif decide ((0:Int) <= 4 /\ 4 < (n15:Int)) then (R1 [.int .u64 (x15.getD 4 0),.int .i64 18]).bind λ dH=>bif decide ((0:Int) <= 4 /\ 4 < (n15:Int)) then (R1 [.int .u64 (x15.getD 4 0),.int .i64 41]).bind λ eU=>bif decide ((0:Int) <= 4 /\ 4 < (n15:Int)) then bif decide ((0:Int) <= 5 /\ 5 < (n15:Int)) then bif decide ((0:Int) <= 4 /\ 4 < (n15:Int)) then bif decide ((0:Int) <= 6 /\ 6 < (n15:Int)) then bif decide ((0:Int) <= 7 /\ 7 < (n15:Int)) then bif decide (0 <= B2 /\ B2 < (n7:Int)) then bif decide (0 <= B2 /\ B2 < (n9:Int)) then bif decide ((0:Int) <= 0 /\ 0 < (n15:Int)) then (R1 [.int .u64 (x15.getD 0 0),.int .i64 28]).bind λ gF=>bif decide ((0:Int) <= 0 /\ 0 < (n15:Int)) then (R1 [.int .u64 (x15.getD 0 0),.int .i64 34]).bind λ gT=>bif decide ((0:Int) <= 0 /\ 0 < (n15:Int)) then (R1 [.int .u64 (x15.getD 0 0),.int .i64 39]).bind λ gJ=>bif decide ((0:Int) <= 0 /\ 0 < (n15:Int)) then bif decide ((0:Int) <= 1 /\ 1 < (n15:Int)) then bif decide ((0:Int) <= 0 /\ 0 < (n15:Int)) then bif decide ((0:Int) <= 2 /\ 2 < (n15:Int)) then bif decide ((0:Int) <= 1 /\ 1 < (n15:Int)) then bif decide ((0:Int) <= 2 /\ 2 < (n15:Int)) then bif decide ((0:Int) <= 0 /\ 0 < (n15:Int)) then bif decide ((0:Int) <= 1 /\ 1 < (n15:Int)) then bif decide ((0:Int) <= 2 /\ 2 < (n15:Int)) then bif decide ((0:Int) <= 3 /\ 3 < (n15:Int)) then bif decide ((0:Int) <= 4 /\ 4 < (n15:Int)) then bif decide ((0:Int) <= 5 /\ 5 < (n15:Int)) then bif decide ((0:Int) <= 6 /\ 6 < (n15:Int)) then G (some (HO n3 n6 x7 n7 v8 n9 ([u64.wrap (u64.wrap (u64.wrap (u64.wrap (u64.wrap (x15.getD 7 0+fL .u64 (fL .u64 (aN t) (aN dH)) (aN eU))+fL .u64 (d8 .u64 (x15.getD 4 0) (x15.getD 5 0)) (d8 .u64 (u64.wrap (18446744073709551615 - x15.getD 4 0)) (x15.getD 6 0)))+x7.getD B2.toNat 0)+gI.getD B2.toNat 0)+u64.wrap (fL .u64 (fL .u64 (aN gF) (aN gT)) (aN gJ)+fL .u64 (fL .u64 (d8 .u64 (x15.getD 0 0) (x15.getD 1 0)) (d8 .u64 (x15.getD 0 0) (x15.getD 2 0))) (d8 .u64 (x15.getD 1 0) (x15.getD 2 0))))]++([x15.getD 0 0]++([x15.getD 1 0]++([x15.getD 2 0]++([u64.wrap (x15.getD 3 0+u64.wrap (u64.wrap (u64.wrap (u64.wrap (x15.getD 7 0+fL .u64 (fL .u64 (aN t) (aN dH)) (aN eU))+fL .u64 (d8 .u64 (x15.getD 4 0) (x15.getD 5 0)) (d8 .u64 (u64.wrap (18446744073709551615 - x15.getD 4 0)) (x15.getD 6 0)))+x7.getD B2.toNat 0)+gI.getD B2.toNat 0))]++([x15.getD 4 0]++([x15.getD 5 0]++[x15.getD 6 0]))))))) 8 (i64.wrap (B2+1)) aQ dP bA iM cT tT gI)) else none else none else none else none else none else none else none else none else none else none else none else none else none else none else none else none else none else none else none else none else none else none else none else none else none else none else H (Ex.exit 12) (some (IY n3 n6 x7 n7 v8 x15 n15 aQ dP bA iM cT)):=by kernel_rfl
def HP (n3 n6:Nat) (x7:List Int) (n7:Nat) (v8:Int) (x15:List Int) (n15:Nat) (Sp:Int) (aQ:List Int) (dP:Nat) (bA:List Int) (iM:Nat) (cT:List Int):St:={ tm:=[(2,.s (.ptr 0 0 64)),(3,.s (.own 1 n3 1)),(6,.s (.own 2 n6 1)),(7,.s (.dat (.ints .u64 x7) n7 1)),(8,.int .i64 v8),(15,.s (.dat (.ints .u64 x15) n15 1)),(22,.int .i64 Sp)],hp:=[(0,{ ty:=209,n:=64,row:=Row.t (.ints .u8 aQ) }),(1,{ ty:=5,n:=dP,row:=Row.t (.ints .u8 bA) }),(2,{ ty:=30,n:=iM,row:=Row.t (.ints .u64 cT) })],nx:=3,sz:=327 }
def NM:Code:=cM (bN [1,1,1,1,1,1,1,1,0,1,2,6,1,0,2,1,1,1,1,1,1,2] (bD Tryz.f231))
def NN {β:Type} (fu:Nat) (G:FG β) (H:FH β):=lO prog (dZ T0 R0 T1 R1 aN) fu [1,0,2,1,1,1,1,1,1,2] jC (uZ (dZ T0 R0 T1 R1 aN) jC G H)
abbrev WR {β:Type} (fu:Nat) (G:FG β) (H:FH β) (n3 n6:Nat) (x7:List Int) (n7:Nat) (v8:Int) (x15:List Int) (n15:Nat) (Sp:Int) (aQ:List Int) (dP:Nat) (bA:List Int) (iM:Nat) (cT:List Int):=eS prog (dZ T0 R0 T1 R1 aN) fu NM (NN T0 R0 T1 R1 aN fu G H) fu (some (HP n3 n6 x7 n7 v8 x15 n15 Sp aQ dP bA iM cT))
theorem TX {β:Type} (fu:Nat) (G:FG β) (H:FH β) (n3 n6:Nat) (x7:List Int) (n7:Nat) (v8:Int) (x15:List Int) (n15:Nat) (aQ:List Int) (dP:Nat) (bA:List Int) (iM:Nat) (cT:List Int):NL T0 R0 T1 R1 aN fu G H (Ex.exit 12) (IY n3 n6 x7 n7 v8 x15 n15 aQ dP bA iM cT)=WR T0 R0 T1 R1 aN fu G H n3 n6 x7 n7 v8 x15 n15 0 aQ dP bA iM cT:=by kernel_rfl
def IZ (n3 n6:Nat) (x7:List Int) (n7:Nat) (v8:Int) (aQ:List Int) (dP:Nat) (bA:List Int) (iM:Nat) (cT:List Int):St:={ tm:=[(2,.s (.ptr 0 0 64)),(3,.s (.own 1 n3 1)),(6,.s (.own 2 n6 1)),(7,.s (.dat (.ints .u64 x7) n7 1)),(8,.int .i64 v8)],hp:=[(0,{ ty:=209,n:=64,row:=Row.t (.ints .u8 aQ) }),(1,{ ty:=5,n:=dP,row:=Row.t (.ints .u8 bA) }),(2,{ ty:=30,n:=iM,row:=Row.t (.ints .u64 cT) })],nx:=3,sz:=327 }
theorem WS {β:Type} (fu:Nat) (G:FG β) (H:FH β) (n3 n6:Nat) (x7:List Int) (n7:Nat) (v8:Int) (x15:List Int) (n15:Nat) (Sp:Int) (aQ:List Int) (dP:Nat) (bA:List Int) (iM:Nat) (cT:List Int):fI prog (dZ T0 R0 T1 R1 aN) fu NM G H (HP n3 n6 x7 n7 v8 x15 n15 Sp aQ dP bA iM cT)=bif decide (Sp < 8) then bif decide (0 <= Sp /\ Sp < (n6:Int)) then bif decide (0 <= Sp /\ Sp < (n15:Int)) then bif decide (0 <= Sp /\ Sp < (n6:Int)) then G (some (HP n3 n6 x7 n7 v8 x15 n15 (i64.wrap (Sp+1)) aQ dP bA iM (cT.set Sp.toNat (u64.wrap (cT.getD Sp.toNat 0+x15.getD Sp.toNat 0))))) else none else none else none else H (Ex.exit 14) (some (IZ n3 n6 x7 n7 v8 aQ dP bA iM cT)):=by kernel_rfl
theorem TY {β:Type} (fu:Nat) (G:FG β) (H:FH β) (n3 n6:Nat) (x7:List Int) (n7:Nat) (v8:Int) (aQ:List Int) (dP:Nat) (bA:List Int) (iM:Nat) (cT:List Int):NN T0 R0 T1 R1 aN fu G H (Ex.exit 14) (IZ n3 n6 x7 n7 v8 aQ dP bA iM cT)=G (some (Dj n3 n6 x7 n7 (i64.wrap (v8+128)) aQ dP bA iM cT)):=by kernel_rfl
end
theorem NO {ss:List Str} {n:Nat} (h:B9 ss n=true):aJW [.s (.dat (.strs ss) n 1)]=some (Mr (Lib.join ss [])):=by
 show cond (B9 ss n) (some (Mr (Lib.join ss []))) none=_;rw [h]; rfl
abbrev iW:Cg:=dZ (PUnit) rK (Nat) fD (λ t=>↑t)
theorem aDt:CfOk prog iW.c:=gk <| aA aZ5 <| aA aKf <| aK
def HQ:Summ where
 T:=List Nat
 run:=λ
  | [.c (.s (.pl (.str s)))]=>cond (Nat.ble s.length 1099511627000) (some (Mr s)) none
  | _=>none
 enc:=λ t=>.agg (.ints .u8 (up t)) 64
theorem dT {p:Prop} [Decidable p] (h:p):decide p=true:=aE h
theorem Ia (n:Nat):Lib.repeatL ([0]:Str) n=List.replicate n 0:=by
 induction n with
 | zero=>rfl
 | succ n ih=>rw [Lib.repeatL,ih]; rfl
theorem aXI (t:Str) (hl:t.length <= 1099511627000) (v:Int) (z:List Int) (fu:Nat):∀ (d n j:Nat),j+d=(247 - t.length%128)%128->d < n ->
  eS prog iW fu NA (NB _ rK _ fD (λ t=>(t:Int)) fu) n (some (HJ (t.length+1+j) v z ((t.length+1+j)*1) ((t++([128]++List.replicate j 0)).map lP))) =
   WF _ rK _ fD (λ t=>(t:Int)) fu (DX t).length v 7 z ((DX t).length*1) ((DX t).map lP):=by
 intro d
 induction d with
 | zero=>
  intro n j hj hn;obtain ⟨n,rfl⟩:=aP (by omega:n ≠ 0);have e:((t.length+1+j:Nat):Int).tmod 128=120:=by rw [lM (by omega)]; omega
  rw [aF,WE,aE e,jW,aD,aR,ZL,Di,show t.length+1+j=t.length+1+(247 - t.length%128)%128 by omega,DX,Ia,<-hj]; rfl
 | succ d ih=>
  intro n j hj hn;obtain ⟨n,rfl⟩:=aP (by omega:n ≠ 0);have h:=ih n (j+1) (by omega) (by omega);have e:¬ ((t.length+1+j:Nat):Int).tmod 128=120:=by rw [lM (by omega)]; omega
  rw [aF,WE,aH e,lL,aB,aE (by omega),aB];rw [List.replicate_succ',<-lN [128],<-lN t,vG (l₁:=t++_)] at h;exact h
theorem aTj (n:Nat):lP (b8 ((n%256:Nat):Int))=((n%256:Nat):Int):=by
 unfold lP;rw [b8,bE];simp
theorem aXJ (P:Str) (hP:P.length+8 <= 1099511627776) (m:Nat) (hm:m < 18446744073709551616) (z:List Int) (fu:Nat):∀ (d n k:Nat),k+d=8->d < n ->
  eS prog iW fu NC (ND _ rK _ fD (λ t=>(t:Int)) fu) n (some (HK (P.length+k) (m:Int) (7 - (k:Int)) z ((P.length+k)*1) ((P++be m k).map lP))) =
   WH _ rK _ fD (λ t=>(t:Int)) fu (P.length+8) 8 (up kN) 80 0 z ((P.length+8)*1) ((P++be m 8).map lP) 8 (up hN):=by
 intro d
 induction d with
 | zero=>
  intro n k hk hn;obtain ⟨n,rfl⟩:=aP (by omega:n ≠ 0);have:k=8:=by omega
  subst this;rw [aF,WG,aH (by decide),aD,aR,ZM,show rK []=some () from rfl,aC]; rfl
 | succ d ih=>
  intro n k hk hn;obtain ⟨n,rfl⟩:=aP (by omega:n ≠ 0);have h:=ih n (k+1) (by omega) (by omega);have hl:=IR m k;have hix:i64.wrap ((8:Int)*(7 - (k:Int)))=((8*(7 - k):Nat):Int):=by rw [bY (by omega) (by omega)]; omega
  rw [aF,WG,aE (by omega),aB,hix,aH (by omega),aD,aE (by omega),aB,mX _ _ (by omega),Dn,bY (by omega) (by omega)];rw [show (7:Int) - (k:Int) - 1=7 - ((k+1:Nat):Int) by omega];rw [be,<-lN,vG (l₁:=P++_),List.map_singleton,aTj] at h;exact h
theorem aDu (s:Str) (i k:Nat) (hk:k < 8):u64.wrap (u64.wrap (((wd s i k:Nat):Int)*256)+u64.wrap (((s.getD (8*i+k) 0).toNat:Nat):Int))=((wd s i (k+1):Nat):Int):=by
 have hb:=(s.getD (8*i+k) 0).toNat_lt;have h1:=aCU s i k;have h2:(256:Nat) ^ k <= 256 ^ 7:=iK (by decide) (by omega);rw [show ((wd s i k:Nat):Int)*256=((wd s i k*256:Nat):Int) by omega,fN,fN,aV (by omega),aV (by omega),<-fZ,fN,aV (by omega)]; rfl
theorem aKH (F:Str) (a j:Nat) (hj:j < 128):(F.map lP).getD (a+j) 0=((((F.drop a).take 128).getD j 0).toNat:Int):=by
 rw [fU,fU,kW,aT hj,mO,kV];cases F[a+j]? <;> rfl
theorem aDv {β:Type} (F:Str) (a:Nat) (ha:a+128 <= F.length) (hF:F.length <= 1099511627776) (i:Nat) (hi:i < 16) (fu:Nat) (z x2:List Int) (m1 m2 m3:Nat) (G:FG β) (H:FH β):∀ (d n k:Nat),k+d=8->d < n ->
  eS prog iW fu NE (NF _ rK _ fD (λ t=>(t:Int)) fu G H) n (some (HL F.length 8 (up kN) 80 (a:Int) 80 (i:Int) (k:Int) z m1 (F.map lP) m2 x2 m3 (up ((blk ((F.drop a).take 128) i).set i (wd ((F.drop a).take 128) i k))))) =
   G (some (Dk F.length 8 (up kN) 80 (a:Int) 80 ((i+1:Nat):Int) z m1 (F.map lP) m2 x2 m3 (up (blk ((F.drop a).take 128) (i+1))))):=by
 intro d
 induction d with
 | zero=>
  intro n k hk hn;obtain ⟨n,rfl⟩:=aP (by omega:n ≠ 0);have:k=8:=by omega
  subst this;rw [aF,WL,aH (by decide),aD,aR,ZP,bY (by omega) (by omega),V4 _ i (by omega)]; rfl
 | succ d ih=>
  intro n k hk hn;obtain ⟨n,rfl⟩:=aP (by omega:n ≠ 0);have h:=ih n (k+1) (by omega) (by omega);have hix:i64.wrap (i64.wrap ((a:Int)+i64.wrap ((8:Int)*(i:Int)))+(k:Int))=((a+(8*i+k):Nat):Int):=by
   rw [bY (n:=8*(i:Int)) (by omega) (by omega),bY (n:=(a:Int)+8*(i:Int)) (by omega) (by omega),bY (by omega) (by omega)]; omega
  rw [aF,WL,aE (by omega),aB,hix,aE (by omega),aB,aE (by omega),aB,aB,bE,bE,aKH F a _ (by omega),lX,z7,aT ⟨rfl,by rw [xO _ _ (by omega)]; omega⟩,
   aDu _ i k (by omega),E6,List.set_set,bY (by omega) (by omega)]
  exact h
theorem aDw {β:Type} (F:Str) (a:Nat) (ha:a+128 <= F.length) (hF:F.length <= 1099511627776) (fu:Nat) (hfu:8 < fu) (z x2:List Int) (m1 m2 m3:Nat) (G:FG β) (H:FH β):∀ (d n i:Nat),i+d=16->d < n ->
  eS prog iW fu A7 (Dl _ rK _ fD (λ t=>(t:Int)) fu G H) n (some (Dk F.length 8 (up kN) 80 (a:Int) 80 (i:Int) z m1 (F.map lP) m2 x2 m3 (up (blk ((F.drop a).take 128) i)))) =
   WM _ rK _ fD (λ t=>(t:Int)) fu G H F.length 8 (up kN) 80 (a:Int) 80 16 z m1 (F.map lP) m2 x2 m3 (up (blk ((F.drop a).take 128) 16)):=by
 intro d
 induction d with
 | zero=>
  intro n i hi hn;obtain ⟨n,rfl⟩:=aP (by omega:n ≠ 0);have:i=16:=by omega
  subst this;rw [aF,WJ,aH (by decide),aD,aR,ZO]
 | succ d ih=>
  intro n i hi hn;obtain ⟨n,rfl⟩:=aP (by omega:n ≠ 0);rw [aF,WJ,aE (by omega),aB];have h:=aDv F a ha hF i (by omega) fu z x2 m1 m2 m3 (eS prog iW fu A7 (Dl _ rK _ fD (λ t=>(t:Int)) fu G H) n) (zL (Dl _ rK _ fD (λ t=>(t:Int)) fu G H)) 8 fu 0 (by omega) hfu;rw [<-K6 _ i (by omega)] at h;refine iR h ?_;exact ih n (i+1) (by omega) (by omega)
theorem aDx {β:Type} (F:Str) (a:Nat) (fu:Nat) (z x2:List Int) (m1 m2 m3:Nat) (G:FG β) (H:FH β) (x0:List Nat) (hx0:Db x0) (h8:x2=up (dn x2) ):∀ (e n d:Nat),d+e=64->e < n ->
  eS prog iW fu NI (NJ _ rK _ fD (λ t=>(t:Int)) fu G H) n (some (HN F.length 8 (up kN) 80 (a:Int) 80 ((16+d:Nat):Int) z m1 (F.map lP) m2 x2 m3 (up (cP x0 d)))) =
   WP _ rK _ fD (λ t=>(t:Int)) fu G H F.length 8 (up kN) 80 (a:Int) 80 [x2.getD 0 0,x2.getD 1 0,x2.getD 2 0,x2.getD 3 0,x2.getD 4 0,x2.getD 5 0,x2.getD 6 0,x2.getD 7 0] 8 0 z m1 (F.map lP) m2 x2 m3 (up (cP x0 64)):=by
 intro e
 induction e with
 | zero=>
  intro n d hd hn;obtain ⟨n,rfl⟩:=aP (by omega:n ≠ 0);have:d=64:=by omega
  subst this;rw [aF,WO,aH (by decide),aD,aR,TW];rfl
 | succ e ih=>
  intro n d hd hn;obtain ⟨n,rfl⟩:=aP (by omega:n ≠ 0);have h:=ih n (d+1) (by omega) (by omega);have ok:=QM hx0 d;have w:∀ k:Nat,k <= 16->i64.wrap (((16+d:Nat):Int) - ((k:Nat):Int))=((16+d - k:Nat):Int):=λ k hk=>by rw [bY (by omega) (by omega)]; omega
  have w15:=w 15 (by omega);have w2:=w 2 (by omega);have w16:=w 16 (by omega);have w7:=w 7 (by omega);simp only [Fq] at w15 w2 w16 w7;rw [aF,WO,aE (by omega),aB,w15,w2,w16,w7];simp (disch:=omega) only [dT,aB];simp only [bE,lX];have t1:=eY _ 1 (ok (16+d - 15)) (by decide) (by decide);have t8:=eY _ 8 (ok (16+d - 15)) (by decide) (by decide);have t19:=eY _ 19 (ok (16+d - 2)) (by decide) (by decide);have t61:=eY _ 61 (ok (16+d - 2)) (by decide) (by decide);simp only [Fq] at t1 t8 t19 t61;rw [t1,aC,t8,aC,t19,aC,t61,aC];have a15:=ok (16+d - 15);have a2:=ok (16+d - 2);have x0':fL .u64 (fL .u64 ((rr ((cP x0 d).getD (16+d - 15) 0) 1:Nat):Int) ((rr ((cP x0 d).getD (16+d - 15) 0) 8:Nat):Int)) (eK .u64 (((cP x0 d).getD (16+d - 15) 0:Nat):Int) 7)=((g0 ((cP x0 d).getD (16+d - 15) 0):Nat):Int):=by
   rw [show (7:Int)=((7:Nat):Int) from rfl,mX _ _ (by decide),rM _ _ (jA _ a15) (jA _ a15),rM _ _ (sY (jA _ a15) (jA _ a15)) (Dd _ a15)]; rfl
  have x1':fL .u64 (fL .u64 ((rr ((cP x0 d).getD (16+d - 2) 0) 19:Nat):Int) ((rr ((cP x0 d).getD (16+d - 2) 0) 61:Nat):Int)) (eK .u64 (((cP x0 d).getD (16+d - 2) 0:Nat):Int) 6)=((g1 ((cP x0 d).getD (16+d - 2) 0):Nat):Int):=by
   rw [show (6:Int)=((6:Nat):Int) from rfl,mX _ _ (by decide),rM _ _ (jA _ a2) (jA _ a2),rM _ _ (sY (jA _ a2) (jA _ a2)) (Dd _ a2)]; rfl
  have sm:∀ a b c e:Nat,u64.wrap (u64.wrap (u64.wrap ((a:Int)+(b:Int))+(c:Int))+(e:Int))=((DV (a+b+c+e):Nat):Int):=λ a b c e=>by
   rw [<-fZ,fN,<-fZ,fN,<-fZ,fN,DV];have:((((a+b)%18446744073709551616+c)%18446744073709551616)+e)%18446744073709551616=(a+b+c+e)%18446744073709551616:=by omega
   rw [this]
  rw [x0',x1',sm,E6,bY (by omega) (by omega)];exact h
theorem aTk (x:Nat) (hx:x < 18446744073709551616):u64.wrap ((18446744073709551615:Int) - (x:Int))=((18446744073709551615 - x:Nat):Int):=by
 rw [show (18446744073709551615:Int) - (x:Int)=((18446744073709551615 - x:Nat):Int) by omega,fN,aV (by omega)]
theorem ZQ {β:Type} (F:Str) (a:Nat) (fu:Nat) (z x2:List Int) (m1 m2 m3:Nat) (G:FG β) (H:FH β) (s w:List Nat) (hs:Db s):∀ (d n i:Nat),i+d=80->d < n ->
  eS prog iW fu NK (NL _ rK _ fD (λ t=>(t:Int)) fu G H) n (some (HO F.length 8 (up kN) 80 (a:Int) 80 (up (wA w s i)) 8 (i:Int) z m1 (F.map lP) m2 x2 m3 (up w))) =
   WR _ rK _ fD (λ t=>(t:Int)) fu G H F.length 8 (up kN) 80 (a:Int) (up (wA w s 80)) 8 0 z m1 (F.map lP) m2 x2:=by
 intro d
 induction d with
 | zero=>
  intro n i hi hn;obtain ⟨n,rfl⟩:=aP (by omega:n ≠ 0);have:i=80:=by omega
  subst this;rw [aF,WQ,aH (by decide),aD,aR,TX]
 | succ d ih=>
  intro n i hi hn;obtain ⟨n,rfl⟩:=aP (by omega:n ≠ 0);have h:=ih n (i+1) (by omega) (by omega);have ok:=IK w hs i;rw [show wA w s (i+1)=rnd (wA w s i) (kN.getD i 0) (w.getD i 0) from rfl] at h;rw [aF,WQ,aE (by omega),aB];generalize wA w s i=t at ok h ⊢;have t14:=eY _ 14 (ok 4) (by decide) (by decide);have t18:=eY _ 18 (ok 4) (by decide) (by decide);have t41:=eY _ 41 (ok 4) (by decide) (by decide);have t28:=eY _ 28 (ok 0) (by decide) (by decide);have t34:=eY _ 34 (ok 0) (by decide) (by decide);have t39:=eY _ 39 (ok 0) (by decide) (by decide);simp only [Fq] at t14 t18 t41 t28 t34 t39;simp only [bE,lX];simp (disch:=omega) only [dT,aB,t14,aC,t18,t41,t28,t34,t39];have y:=aXz t ok;have x:=aXy t ok (kN.getD i 0) (w.getD i 0);rw [aOC _ (ok 4),<-aTk _ (ok 4)] at x;rw [x,y,bY (by omega) (by omega)];have sm:∀ a b:Nat,u64.wrap ((a:Int)+(b:Int))=((DV (a+b):Nat):Int):=λ a b=>by rw [<-fZ,fN]; rfl
  rw [sm,sm];exact h
theorem aTl {β:Type} (F:Str) (a:Nat) (hF:F.length <= 1099511627776) (ha:a+128 <= F.length) (fu:Nat) (z:List Int) (m1 m2:Nat) (G:FG β) (H:FH β) (s t:List Nat):∀ (d n i:Nat),i+d=8->d < n ->
  eS prog iW fu NM (NN _ rK _ fD (λ t=>(t:Int)) fu G H) n (some (HP F.length 8 (up kN) 80 (a:Int) (up t) 8 (i:Int) z m1 (F.map lP) m2 (up (E5 s t i)))) =
   G (some (Dj F.length 8 (up kN) 80 ((a+128:Nat):Int) z m1 (F.map lP) m2 (up (E5 s t 8)))):=by
 intro d
 induction d with
 | zero=>
  intro n i hi hn;obtain ⟨n,rfl⟩:=aP (by omega:n ≠ 0);have:i=8:=by omega
  subst this;rw [aF,WS,aH (by decide),aD,aR,TY,bY (by omega) (by omega)]; rfl
 | succ d ih=>
  intro n i hi hn;obtain ⟨n,rfl⟩:=aP (by omega:n ≠ 0);have h:=ih n (i+1) (by omega) (by omega);have sm:∀ a b:Nat,u64.wrap ((a:Int)+(b:Int))=((DV (a+b):Nat):Int):=λ a b=>by rw [<-fZ,fN]; rfl
  rw [aF,WS];simp (disch:=omega) only [dT,aB];rw [bE,lX,lX,sm,E6,bY (by omega) (by omega)];exact h
theorem aDy {s:List Nat} (h:s.length=8):[(up s).getD 0 0,(up s).getD 1 0,(up s).getD 2 0,(up s).getD 3 0,(up s).getD 4 0,(up s).getD 5 0,(up s).getD 6 0,(up s).getD 7 0]=up s:=by
 match s,h with
 | [a,b,c,d,e,f,g,i],_=>rfl
theorem ZR (F:Str) (hF:F.length <= 1099511627776) (z:List Int) (m1 m2:Nat) (fu:Nat) (hfu:80 < fu):∀ (q n a:Nat) (h:List Nat),a+128*q=F.length->h.length=8->Db h->q < n ->
  eS prog iW fu jC (nK _ rK _ fD (λ t=>(t:Int)) fu) n (some (Dj F.length 8 (up kN) 80 (a:Int) z m1 (F.map lP) m2 (up h))) =
   WK _ rK _ fD (λ t=>(t:Int)) fu 8 0 z m2 (up (zZ h q (F.drop a))) pH:=by
 intro q
 induction q with
 | zero=>
  intro n a h hq hl ok hn;obtain ⟨n,rfl⟩:=aP (by omega:n ≠ 0);rw [aF,WI,aH (by omega),aD,aR,ZN]; rfl
 | succ q ih=>
  intro n a h hq hl ok hn;obtain ⟨n,rfl⟩:=aP (by omega:n ≠ 0);rw [aF,WI,aE (by omega),aB];have o:=aDw F a (by omega) hF fu (by omega) z (up h) m1 m2 80 (eS prog iW fu jC (nK _ rK _ fD (λ t=>(t:Int)) fu) n) (zL (nK _ rK _ fD (λ t=>(t:Int)) fu)) 16 fu 0 (by omega) (by omega);refine iR (iR ?_ o) ?_
  ·rfl
  have c:=aDx F a fu z (up h) m1 m2 80 (eS prog iW fu jC (nK _ rK _ fD (λ t=>(t:Int)) fu) n) (zL (nK _ rK _ fD (λ t=>(t:Int)) fu)) (blk ((F.drop a).take 128) 16) (aCV _ _) (by rw [QV]) 64 fu 0 (by omega) (by omega);refine iR (iR ?_ c) ?_
  ·rfl
  rw [aDy hl];have r:=ZQ F a fu z (up h) m1 m2 80 (eS prog iW fu jC (nK _ rK _ fD (λ t=>(t:Int)) fu) n) (zL (nK _ rK _ fD (λ t=>(t:Int)) fu)) h (cP (blk ((F.drop a).take 128) 16) 64) ok 80 fu 0 (by omega) (by omega);refine iR (iR ?_ r) ?_
  ·rfl
  have x:=aTl F a hF (by omega) fu z m1 m2 (eS prog iW fu jC (nK _ rK _ fD (λ t=>(t:Int)) fu) n) (zL (nK _ rK _ fD (λ t=>(t:Int)) fu)) h (wA (cP (blk ((F.drop a).take 128) 16) 64) h 80) 8 fu 0 (by omega) (by omega);refine iR (iR ?_ x) ?_
  ·rfl
  have i:=ih n (a+128) (zY h ((F.drop a).take 128)) (by omega) (LB _ hl) (IU _ ok) (by omega);rw [<-KA] at i;exact i
theorem aTm (h:List Nat) (ok:Db h) (z:List Int) (m:Nat) (fu:Nat):∀ (d n i:Nat),i+d=64->d < n ->
  eS prog iW fu NG (NH _ rK _ fD (λ t=>(t:Int)) fu) n (some (HM 8 (i:Int) z m (up h) (up (Ca h i)++List.replicate (64 - i) 0)))=some (.agg (.ints .u8 (up (Ca h 64))) 64):=by
 intro d
 induction d with
 | zero=>
  intro n i hi hn;obtain ⟨n,rfl⟩:=aP (by omega:n ≠ 0);have:i=64:=by omega
  subst this;rw [aF,WN,aH (by decide),aD,aR,TV,i0,uQ,i8]
 | succ d ih=>
  intro n i hi hn;obtain ⟨n,rfl⟩:=aP (by omega:n ≠ 0);have h':=ih n (i+1) (by omega) (by omega);have h1:((i:Nat):Int).tdiv 8=((i / 8:Nat):Int):=by rw [rF (by omega)]; omega
  have h2:((i:Nat):Int).tmod 8=((i%8:Nat):Int):=by rw [lM (by omega)]; omega
  have e1:i64.wrap (((i:Nat):Int).tdiv 8)=((i / 8:Nat):Int):=by rw [h1]; exact bY (by omega) (by omega)
  have e2:i64.wrap ((56:Int) - i64.wrap ((8:Int)*((i:Nat):Int).tmod 8))=((56 - 8*(i%8):Nat):Int):=by
   rw [h2,bY (n:=8*((i%8:Nat):Int)) (by omega) (by omega),bY (by omega) (by omega)]; omega
  rw [aF,WN,aE (by omega),aB,e1,e2,aE (by omega),aB,aH (by omega),aD,aE (by omega),aB,bE,bE,bS,lX,mX _ _ (by omega),Dn,bY (by omega) (by omega),QX h i (by omega)];exact h'
theorem aTn (s:Str) (h1:s.length <= 1099511627000) (fu:Nat) (hf:(full s).length+100 < fu):bB prog Tryz.f231 iW fu [.str s]=some (.agg (.ints .u8 (up (Mr s))) 64):=by
 refine (aKE ..).trans ?_;rw [aE (by omega),aB,aE (by omega),aB];have hw:u64.wrap (u64.wrap ((s.length:Nat):Int)*8)=((s.length*8:Nat):Int):=by
  rw [fN,aV (by omega),show ((s.length:Nat):Int)*8=((s.length*8:Nat):Int) by omega,fN,aV (by omega)]
 rw [hw];have hl:=Di s;have fl:=QY s;have fe:(full s).length=(DX s).length+8:=by rw [full,i9,IR]
 have a:=aXI s h1 ((s.length*8:Nat):Int) pH fu _ fu 0 (bS _) (by omega);have b:=aXJ (DX s) (by omega) (s.length*8) (by omega) pH fu 8 fu 0 (by omega) (by omega);rw [show DX s++be (s.length*8) 0=DX s from i8 _,<-fe] at b;have c:=ZR (full s) (by omega) pH ((full s).length*1) 8 fu (by omega) ((full s).length / 128) fu 0 hN (by omega) rfl M9 (by omega);have e:=aTm (zZ hN ((full s).length / 128) (full s)) (LC _ _ _ M9) pH 8 fu 64 fu 0 (by omega) (by omega);rw [IV] at e;rw [kU] at c;rw [show (List.replicate 0 (0:UInt8))=[] from rfl,i8,vG] at a;exact iR a (iR b (iR c e))
theorem ZS:CallOk prog 231 HQ:=by
 refine aZ (fu:=λ args=>match args with | [.c (.s (.pl (.str s)))]=>(full s).length+101 | _=>0) aDt Tryz.func231 ?_;intro args t ht;unfold HQ at ht;simp only at ht;split at ht
 ·rename_i s;obtain ⟨h1,h2⟩:=cC ht;subst h2;rw [lC] at h1;exact aTn s h1 _ (lD _)
 ·cases ht
section
variable (T0:Type) (R0:FA T0) (aG:T0->List UInt8) (T1:Type) (R1:FA T1) (aN:T1->List UInt8) (T2:Type) (R2:FA T2) (bC:T2->List Int)
end
section
variable (T0:Type) (R0:FA T0) (aG:T0->List Int) (T1:Type) (R1:FA T1) (aN:T1->List UInt8)
end
theorem Ib {a:List Int} (h:a.length=64):aDs [.agg (.ints .u8 a) 64]=some (a.map b8):=by
 show cond (Nat.beq a.length 64) _ none=_;rw [h]; rfl
theorem Dm (s:Str):(Mr s).length=64:=QW _ _
end
end Go.Eng
