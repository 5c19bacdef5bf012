import Derived.Test.YthiilbllojllcaaGreatZG2
namespace Go.Eng
open Go.IntKind (u64 i64 u8)
noncomputable section
open Go Go.Proofs
set_option linter.all false
def Si:Summ where
 T:=Nat
 run:=λ
  | [.c (.s (.pl (.str s)))]=>cond (Nat.ble s.length 64) (some (vS s%LN)) none
  | _=>none
 enc:=λ t=>.tup [.s (.pl (.agg (.ints .u64 (cM 8 t)) 8)),.s (.pl (.int .i64 0))]
def aDd:FA Nat:=Si.run
def bFD:Summ:={ T:=Nat,run:=EP 7237005577332262213973186563042994240857116359379907606001950938285454250989,enc:=eN }
def bHY:FA Nat:=bFD.run
def Sj:Summ:={ T:=Nat,run:=oO (λ x=>x%LN) λ x=>Nat.blt x i9,enc:=eN }
def Za:FA Nat:=Sj.run
def aNl:Summ:={ T:=Nat,run:=Ax λ a=>vB a,enc:=eN }
def aNm:FA Nat:=aNl.run
section
variable (T0:Type) (R0:FA T0) (aG:T0->List Int) (aO:T0->Int) (T1:Type) (R1:FA T1) (aM:T1->List Int)
def aYl:Cg:=⟨⟨cV [(44,⟨R0,λ t=>AV.tup [.s (.pl (.agg (.ints .u64 (aG t)) 8)),.s (.pl (.int .i64 (aO t)))]⟩),(45,⟨R1,λ t=>AV.agg (.ints .u64 (aM t)) 8⟩)],[],cX⟩,[]⟩
theorem bFE (fu:Nat) (s:Str):aS prog Tryz.f16 (aYl T0 R0 aG aO T1 R1 aM) fu [.str s]=(R0 [.str s]).bind λ t=>bif !decide (aO t=0) then some (AV.tup [.s (.pl (.agg (.ints .u64 [0,0,0,0,0,0,0,0]) 8)),.s (.pl (.int .i64 (aO t)))]) else (R1 [.agg (.ints .u64 (aG t)) 8]).bind λ t=>some (AV.tup [.s (.pl (.agg (.ints .u64 (aM t)) 8)),.s (.pl (.int .i64 0))]):=by kernel_rfl
end
section
variable (T0:Type) (R0:FA T0) (aG:T0->List Int) (aO:T0->Nat)
def aYm:Cg:=⟨⟨cV [(50,⟨R0,λ t=>AV.s (dI (aG t) (aO t))⟩)],[],cX⟩,[]⟩
theorem bFF (fu:Nat):aS prog Tryz.f18 (aYm T0 R0 aG aO) fu []=(R0 [.str ([(55:UInt8),50,51,55,48,48,53,53,55,55,51,51,50,50,54,50,50,49,51,57,55,51,49,56,54,53,54,51,48,52,50,57,57,52,50,52,48,56].append [(53:UInt8),55,49,49,54,51,53,57,51,55,57,57,48,55,54,48,54,48,48,49,57,53,48,57,51,56,50,56,53,52,53,52,50,53,48,57,56,57])]).bind λ t=>some (AV.s (dI (aG t) (aO t))):=by kernel_rfl
end
section
variable (T0:Type) (R0:FA T0) (aG:T0->List Int) (aO:T0->Nat) (T1:Type) (R1:FA T1) (aM:T1->List Int) (bK:T1->Nat) (iH:T1->List Int) (iI:T1->Nat)
def aYn:Cg:=⟨⟨cV [(18,⟨R0,λ t=>AV.s (dI (aG t) (aO t))⟩),(17,⟨R1,λ t=>AV.tup [.s (dI (aM t) (bK t)),.s (dI (iH t) (iI t))]⟩)],[],cX⟩,[]⟩
theorem bFG (fu:Nat) (x:Nat):aS prog Tryz.f6 (aYn T0 R0 aG aO T1 R1 aM bK iH iI) fu [eN x]=(R0 []).bind λ t=>(R1 [.s (dI (nb x) (nb x).length),.s (dI (aG t) (aO t))]).bind λ t=>some (AV.s (dI (iH t) (iI t))):=by kernel_rfl
end
section
variable (T0:Type) (R0:FA T0) (aG:T0->List Int) (aO:T0->Nat)
def WN:Cg:=⟨⟨cV [(19,⟨R0,λ t=>AV.s (dI (aG t) (aO t))⟩)],[],cX⟩,[(4,[1,3,4],[3])]⟩
def Sk (n3:Nat) (v4:Int) (aQ:List Int) (eM:Nat) (bC:List Int):St:={ tm:=[(1,.s (.ptr 0 0 32)),(3,.s (.own 1 n3 1)),(4,.int .i64 v4)],hp:=[(0,{ ty:=23,n:=32,row:=Row.t (.ints .u8 aQ) }),(1,{ ty:=5,n:=eM,row:=Row.t (.ints .u8 bC) })],nx:=2,sz:=19 }
def Zb:Code:=cN (bN [1,1,0,1,2] (bB Tryz.f7))
def Zc (fu:Nat):=mD prog (WN T0 R0 aG aO) fu [1,1,0,1,2] (bB Tryz.f7) (gI prog Tryz.f7)
abbrev bFH (fu:Nat) (n3:Nat) (v4:Int) (aQ:List Int) (eM:Nat) (bC:List Int):=eV prog (WN T0 R0 aG aO) fu Zb (Zc T0 R0 aG aO fu ) fu (some (Sk n3 v4 aQ eM bC))
theorem bFI (fu:Nat) (a:List Int):aS prog Tryz.f7 (WN T0 R0 aG aO) fu [.agg (.ints .u8 a) 32]=bFH T0 R0 aG aO fu 32 0 a 32 (List.replicate 32 0):=by kernel_rfl
def WO (n3 fL:Nat) (aQ:List Int):St:={ tm:=[(3,.s (.own 0 n3 1))],hp:=[(0,{ ty:=5,n:=fL,row:=Row.t (.ints .u8 aQ) })],nx:=1,sz:=19 }
theorem aNn {β:Type} (fu:Nat) (G:FG β) (H:FH β) (n3:Nat) (v4:Int) (aQ:List Int) (eM:Nat) (bC:List Int):fV prog (WN T0 R0 aG aO) fu Zb G H (Sk n3 v4 aQ eM bC)=bif decide (v4 < 32) then bif decide (0 <= v4 /\ v4 < 32) then bif decide (0 <= v4 /\ v4 < (n3:Int)) then G (some (Sk n3 (i64.wrap (v4+1)) aQ eM (bC.set v4.toNat (aQ.getD (0+v4.toNat) 0)))) else none else none else H (Ex.exit 0) (some (WO n3 eM bC)):=by kernel_rfl
theorem aNo (fu:Nat) (n3 fL:Nat) (aQ:List Int):Zc T0 R0 aG aO fu  (Ex.exit 0) (WO n3 fL aQ)=(R0 [.str (List.map b8 aQ)]).bind λ t=>some (AV.s (dI (aG t) (aO t))):=by kernel_rfl
end
set_option maxRecDepth 4000
abbrev bFJ:Cg:=aYl (Nat × Int) Xc (λ t=>cM 8 t.fst) (λ t=>t.snd) (Nat) aBg (λ t=>cM 8 t)
theorem aU4:CfOk prog bFJ.c:=gk <| aA Wk <| aA aBl <| aH
theorem aF3:CallOk prog 16 Si:=by
 refine fO aU4 Tryz.func16 ?_;intro args t ht;unfold Si at ht;simp only at ht;split at ht
 ·rename_i s;obtain ⟨h1,h2⟩:=bO ht;subst h2;have hl:=dA h1;have p:=PZ (s:=s) (by omega);have hb:Nat.blt 64 s.length=false:=by
   rw [M6]; intro h;have:=dA h;omega
  rw [hb,aE] at p;have hv:vS s < gD:=by
   have:=aYG s;refine dD this ?_;rw [show gD=256 ^ 64 by decide +kernel];exact kM (by decide) hl
  have r:=Uc (cL (vS s));rw [zB hv] at r;simp only [W8] at r;refine (bFE ..).trans ?_;rw [p,aC];show cond (!decide ((0:Int)=0)) _ _=_;rw [aD rfl,iD,aE,r,aC];rfl
 ·cases ht
theorem Zd {s:Str} (h:s.length <= 64):aDd [.str s]=some (vS s%LN):=by
 show cond (Nat.ble s.length 64) _ _=_;rw [lY h,aB]
abbrev bFK:Cg:=aYm (Nat) aAk (λ t=>nb t) (λ t=>(nb t).length)
theorem aU5:CfOk prog bFK.c:=gk <| aA Qu <| aH
theorem bFL:CallOk prog 18 bFD:=by
 refine fO aU5 Tryz.func18 ?_;intro args t ht;unfold bFD EP at ht;simp only at ht;split at ht
 ·cases ht;refine (bFF ..).trans ?_;refine iW (b:=(some LN).bind λ (t:Nat)=>some (AV.s (SV.dat (TRow.ints i64 (nb t)) (nb t).length 1))) ?_ rfl;congr 1
 ·cases ht
abbrev bFM:Cg:=aYn (Nat) bHY (λ t=>nb t) (λ t=>(nb t).length) (Nat × Nat) JW (λ t=>nb t.fst) (λ t=>(nb t.fst).length) (λ t=>nb t.snd) (λ t=>(nb t.snd).length)
theorem aU6:CfOk prog bFM.c:=gk <| aA bFL <| aA H8 <| aH
theorem aNp:CallOk prog 6 Sj:=by
 refine fO aU6 Tryz.func6 ?_;intro args t ht;unfold Sj oO at ht;simp only at ht;split at ht
 ·rename_i a n;obtain ⟨h1,h2⟩:=bO ht;rw [aW] at h1;obtain ⟨x,rfl,rfl,hx,ex⟩:=qE h1.1;have h3:=cY.mp h1.2;rw [ex] at h3 h2;subst h2;have hl:(nb x).length <= 64:=dL h3;have d:=Eo (x:=x) (y:=LN) (by omega) (by decide +kernel) (by decide);simp only [eN] at d;refine (bFG ..).trans ?_;rw [show bHY []=some LN from rfl,aC,d,aC];rfl
 ·cases ht
theorem PP {x:Nat} (h:x < i9):Za [eN x]=some (x%LN):=by
 have hl:(nb x).length <= 64:=dL h;simp only [Za,Sj,oO,eN];rw [oX (by omega),gN,cY.mpr h]; rfl
abbrev aNq:Cg:=WN (Nat) BW (λ t=>nb t) (λ t=>(nb t).length)
theorem aU7:CfOk prog aNq.c:=gk <| aA Wh <| aH
theorem aNr (a:List Int) (hl:a.length=32) (hb:kX a=true) (m fu:Nat):∀ (d n i:Nat),i+d=32->d < n ->
  eV prog aNq fu Zb (Zc _ BW (λ t=>nb t) (λ t=>(nb t).length) fu) n (some (Sk 32 (i:Int) a m (a.take i++List.replicate (32 - i) 0)))=some (eN (vB a)):=by
 intro d
 induction d with
 | zero=>
  intro n i hi hn;obtain ⟨n,rfl⟩:=aP (by omega:n ≠ 0);have e:i=32:=by omega
  subst e;rw [aF,aNn,aJ (by omega),aE,aR,aNo,iL,sJ,jC,d9 (by omega),PV (by rw [eZ]; omega),aC,aDK hb];rfl
 | succ d ih=>
  intro n i hi hn;obtain ⟨n,rfl⟩:=aP (by omega:n ≠ 0);have h:=ih n (i+1) (by omega) (by omega);rw [aF,aNn,aD (by omega),aB,aD (by omega),aB,aD (by omega),aB,bD,bT,Jb a 32 i hl (by omega),bW (by omega) (by omega)];exact h
theorem aU8:CallOk prog 7 aNl:=by
 refine aZ (fu:=λ _=>40) aU7 Tryz.func7 ?_;intro args t ht;obtain ⟨a,rfl,ha,rfl⟩:=sX (F:=λ a=>vB a) ht;obtain ⟨hl,hb⟩:=fW ha;refine (bFI ..).trans ?_;exact aNr a hl hb 32 40 32 40 0 (by omega) (by omega)
theorem WP {a:List Int} (h:dP a=true):aNm [pG a]=some (vB a):=by
 simp only [aNm,aNl];exact B2 (λ a=>vB a) h
end
end Go.Eng
