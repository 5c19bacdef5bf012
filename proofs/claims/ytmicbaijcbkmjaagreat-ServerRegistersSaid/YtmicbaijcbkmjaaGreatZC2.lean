import Derived.Test.YtmicbaijcbkmjaaGreatZF2
namespace Go.Eng
open Go.IntKind (u64 i64 u8)
noncomputable section
open Go Go.Proofs
set_option linter.all false
abbrev LN:Nat:=7237005577332262213973186563042994240857116359379907606001950938285454250989
def eW (n:Nat):AV:=.agg (.ints .u64 (cQ 8 n)) 8
def aJq:Summ where
 T:=Unit
 run:=λ
  | []=>some ()
  | _=>none
 enc:=λ _=>eW LN
def aSn:FA Unit:=aJq.run
def Vy:Summ:={ T:=Nat,run:=KO λ a=>val a%LN,enc:=eW }
def aCM:FA Nat:=Vy.run
def Mo:Summ:={ T:=Bool,run:=KO λ a=>Nat.beq (val a) 0,enc:=λ t=>.bool t }
def Vz:FA Bool:=Mo.run
structure Pt where
 x:Fe
 y:Fe
 z:Fe
 t:Fe
def eP (p:Pt):AV:=.agg (.ints .u64 [(p.x.a:Int),p.x.b,p.x.c,p.x.d,p.x.e,p.y.a,p.y.b,p.y.c,p.y.d,p.y.e,p.z.a,p.z.b,p.z.c,p.z.d,p.z.e,p.t.a,p.t.b,p.t.c,p.t.d,p.t.e]) 20
def DO {T:Type} (F:Pt->T):FA T
 | [.c (.s (.pl (.agg (.ints .u64 [a,b,c,d,e,f,g,h,i,j,k,l,m,n,o,p,q,r,s,t]) 20)))]=>
  cond (wZ a b c d e && (wZ f g h i j && (wZ k l m n o && wZ p q r s t))) (some (F ⟨xS a b c d e,xS f g h i j,xS k l m n o,xS p q r s t⟩)) none
 | _=>none
def Kz {T:Type} (F:Pt->Pt->T):FA T
 | [.c (.s (.pl (.agg (.ints .u64 [a,b,c,d,e,f,g,h,i,j,k,l,m,n,o,p,q,r,s,t]) 20))),.c (.s (.pl (.agg (.ints .u64 [a',b',c',d',e',f',g',h',i',j',k',l',m',n',o',p',q',r',s',t']) 20)))]=>
  cond (wZ a b c d e && (wZ f g h i j && (wZ k l m n o && wZ p q r s t)) && (wZ a' b' c' d' e' && (wZ f' g' h' i' j' && (wZ k' l' m' n' o' && wZ p' q' r' s' t'))))
   (some (F ⟨xS a b c d e,xS f g h i j,xS k l m n o,xS p q r s t⟩ ⟨xS a' b' c' d' e',xS f' g' h' i' j',xS k' l' m' n' o',xS p' q' r' s' t'⟩)) none
 | _=>none
def IV {T:Type} (F:Pt->Pt->Fe->T):FA T
 | [.c (.s (.pl (.agg (.ints .u64 [a,b,c,d,e,f,g,h,i,j,k,l,m,n,o,p,q,r,s,t]) 20))),.c (.s (.pl (.agg (.ints .u64 [a',b',c',d',e',f',g',h',i',j',k',l',m',n',o',p',q',r',s',t']) 20))),.c (.s (.pl (.agg (.ints .u64 [u0,u1,u2,u3,u4]) 5)))]=>
  cond (wZ a b c d e && (wZ f g h i j && (wZ k l m n o && wZ p q r s t)) && (wZ a' b' c' d' e' && (wZ f' g' h' i' j' && (wZ k' l' m' n' o' && wZ p' q' r' s' t'))) && wZ u0 u1 u2 u3 u4)
   (some (F ⟨xS a b c d e,xS f g h i j,xS k l m n o,xS p q r s t⟩ ⟨xS a' b' c' d' e',xS f' g' h' i' j',xS k' l' m' n' o',xS p' q' r' s' t'⟩ (xS u0 u1 u2 u3 u4))) none
 | _=>none
def K0 {T:Type} (F:Fe->Fe->Fe->Fe->T):FA T
 | [.c (.s (.pl (.agg (.ints .u64 [a,b,c,d,e]) 5))),.c (.s (.pl (.agg (.ints .u64 [f,g,h,i,j]) 5))),.c (.s (.pl (.agg (.ints .u64 [k,l,m,n,o]) 5))),.c (.s (.pl (.agg (.ints .u64 [p,q,r,s,t]) 5)))]=>
  cond (wZ a b c d e && (wZ f g h i j && (wZ k l m n o && wZ p q r s t))) (some (F (xS a b c d e) (xS f g h i j) (xS k l m n o) (xS p q r s t))) none
 | _=>none
def dF:Fe:=fe 37095705934669439343138083508754565189542113879843219016388785533085940283555
def sCD:Summ where
 T:=Unit
 run:=λ
  | []=>some ()
  | _=>none
 enc:=λ _=>eF dF
def rCD:FA Unit:=sCD.run
def CT (x y:Fe):Pt:=⟨x,y,fe 1,aO x y⟩
def Mp:Summ:={ T:=Pt,run:=Dn CT,enc:=eP }
def TO:FA Pt:=Mp.run
def gZ:Pt:=CT (fe 0) (fe 1)
def Gl {T:Type} (t:T):FA T
 | []=>some t
 | _=>none
def IW:Summ:={ T:=Pt,run:=Gl gZ,enc:=eP }
def IX:FA Pt:=IW.run
def ePE (t:Pt × Int):AV:=.tup [.s (.pl (.agg (.ints .u64 [(t.1.x.a:Int),t.1.x.b,t.1.x.c,t.1.x.d,t.1.x.e,t.1.y.a,t.1.y.b,t.1.y.c,t.1.y.d,t.1.y.e,t.1.z.a,t.1.z.b,t.1.z.c,t.1.z.d,t.1.z.e,t.1.t.a,t.1.t.b,t.1.t.c,t.1.t.d,t.1.t.e]) 20)),.s (.pl (.int .i64 t.2))]
def IY (e f g h:Fe):Pt:=⟨aO e f,aO g h,aO f g,aO e h⟩
def sJn:Summ:={ T:=Pt,run:=K0 IY,enc:=eP }
def rJn:FA Pt:=sJn.run
def CU (p q:Pt) (w:Fe):Pt :=
 IY (cJ (aO (gC p.y p.x) (gC q.y q.x)) (aO (cJ p.y p.x) (cJ q.y q.x))) (cJ (aO (gC p.z p.z) q.z) (aO (aO p.t w) q.t))
  (gC (aO (gC p.z p.z) q.z) (aO (aO p.t w) q.t)) (gC (aO (gC p.y p.x) (gC q.y q.x)) (aO (cJ p.y p.x) (cJ q.y q.x)))
def aJs:Summ:={ T:=Pt,run:=IV CU,enc:=eP }
def ZS:FA Pt:=aJs.run
def E4:Fe:=gC dF dF
def V0:Summ:={ T:=Pt,run:=Kz λ p q=>CU p q E4,enc:=eP }
def V1:FA Pt:=V0.run
def Gm (p:Pt):Pt :=
 IY (cJ (gC (aO p.x p.x) (aO p.y p.y)) (aO (gC p.x p.y) (gC p.x p.y))) (gC (gC (aO p.z p.z) (aO p.z p.z)) (cJ (aO p.x p.x) (aO p.y p.y)))
  (cJ (aO p.x p.x) (aO p.y p.y)) (gC (aO p.x p.x) (aO p.y p.y))
def aSo:Summ:={ T:=Pt,run:=DO Gm,enc:=eP }
def aCN:FA Pt:=aSo.run
def sRD:Summ:={ T:=Nat,run:=Gl 37095705934669439343138083508754565189542113879843219016388785533085940283555,enc:=eN }
def rRD:FA Nat:=sRD.run
section
variable (T0:Type) (R0:FA T0) (aG:T0->List Int) (aM:T0->Int) (T1:Type) (R1:FA T1) (aN:T1->List Int) (T2:Type) (R2:FA T2) (bC:T2->List Int) (T3:Type) (R3:FA T3) (bO:T3->List Int) (cI:T3->Bool)
def aOw:Cg:=⟨⟨dE [(132,⟨R0,λ t=>AV.tup [.s (.pl (.agg (.ints .u64 (aG t)) 8)),.s (.pl (.int .i64 (aM t)))]⟩),(105,⟨R1,λ t=>AV.agg (.ints .u64 (aN t)) 8⟩),(133,⟨R2,λ t=>AV.agg (.ints .u64 (bC t)) 8⟩),(89,⟨R3,λ t=>AV.tup [.s (.pl (.agg (.ints .u64 (bO t)) 8)),.s (.pl (.bool (cI t)))]⟩)],[],dR⟩,[]⟩
theorem aSp (fu:Nat):bB prog Tryz.f87 (aOw T0 R0 aG aM T1 R1 aN T2 R2 bC T3 R3 bO cI) fu []=(R0 [.str [(50:UInt8),55,55,52,50,51,49,55,55,55,55,51,55,50,51,53,51,53,51,53,56,53,49,57,51,55,55,57,48,56,56,51,54,52,56,52,57,51]]).bind λ t=>(R1 [.int .u64 1]).bind λ dH=>(R2 [.agg (.ints .u64 (aN dH)) 8,.int .i64 252]).bind λ eU=>(R3 [.agg (.ints .u64 (bC eU)) 8,.agg (.ints .u64 (aG t)) 8]).bind λ t=>some (AV.agg (.ints .u64 (bO t)) 8):=by kernel_rfl
end
section
variable (T0:Type) (R0:FA T0) (T1:Type) (R1:FA T1) (aN:T1->Int) (T2:Type) (R2:FA T2) (bC:T2->List Int) (bW:T2->Bool) (T3:Type) (R3:FA T3) (bO:T3->Int) (T4:Type) (R4:FA T4) (eV:T4->Int) (T5:Type) (R5:FA T5) (fW:T5->List Int) (iU:T5->Bool)
def QO:Cg:=⟨⟨dE [(87,⟨R0,λ t=>AV.agg (.ints .u64 (cQ 8 7237005577332262213973186563042994240857116359379907606001950938285454250989)) 8⟩),(88,⟨R1,λ t=>AV.int .i64 (aN t)⟩),(89,⟨R2,λ t=>AV.tup [.s (.pl (.agg (.ints .u64 (bC t)) 8)),.s (.pl (.bool (bW t)))]⟩),(90,⟨R3,λ t=>AV.int .u64 (bO t)⟩),(91,⟨R4,λ t=>AV.int .i64 (eV t)⟩),(92,⟨R5,λ t=>AV.tup [.s (.pl (.agg (.ints .u64 (fW t)) 8)),.s (.pl (.bool (iU t)))]⟩)],[],dR⟩,[(5,[1,2,3,4,5],[2,4])]⟩
def IZ (v5:Int) (aQ bA cT gI:List Int):St:={ tm:=[(1,.s (.ptr 0 0 8)),(2,.s (.ptr 1 0 8)),(3,.s (.ptr 2 0 8)),(4,.s (.ptr 3 0 8)),(5,.int .i64 v5)],hp:=[(0,{ ty:=32,n:=8,row:=Row.t (.ints .u64 aQ) }),(1,{ ty:=34,n:=8,row:=Row.t (.ints .u64 bA) }),(2,{ ty:=32,n:=8,row:=Row.t (.ints .u64 cT) }),(3,{ ty:=32,n:=8,row:=Row.t (.ints .u64 gI) })],nx:=4,sz:=39 }
def TP:Code:=cM (bN [1,1,1,0,1,2] (bD Tryz.f39))
def TQ (fu:Nat):=lP prog (QO T0 R0 T1 R1 aN T2 R2 bC bW T3 R3 bO T4 R4 eV T5 R5 fW iU) fu [1,1,1,0,1,2] (bD Tryz.f39) (fT prog Tryz.f39)
abbrev aSq (fu:Nat) (v5:Int) (aQ bA cT gI:List Int):=eS prog (QO T0 R0 T1 R1 aN T2 R2 bC bW T3 R3 bO T4 R4 eV T5 R5 fW iU) fu TP (TQ T0 R0 T1 R1 aN T2 R2 bC bW T3 R3 bO T4 R4 eV T5 R5 fW iU fu ) fu (some (IZ v5 aQ bA cT gI))
theorem aSr (fu:Nat) (a:List Int):bB prog Tryz.f39 (QO T0 R0 T1 R1 aN T2 R2 bC bW T3 R3 bO T4 R4 eV T5 R5 fW iU) fu [W8 a]=(R0 []).bind λ t=>(R1 [.agg (.ints .u64 a) 8]).bind λ t=>aSq T0 R0 T1 R1 aN T2 R2 bC bW T3 R3 bO T4 R4 eV T5 R5 fW iU fu (i64.wrap (aN t - 1)) a [0,0,0,0,0,0,0,0] (cQ 8 7237005577332262213973186563042994240857116359379907606001950938285454250989) [0,0,0,0,0,0,0,0]:=by kernel_rfl
def QQ (aQ bA:List Int):St:={ tm:=[(2,.s (.ptr 0 0 8)),(4,.s (.ptr 1 0 8))],hp:=[(0,{ ty:=34,n:=8,row:=Row.t (.ints .u64 aQ) }),(1,{ ty:=32,n:=8,row:=Row.t (.ints .u64 bA) })],nx:=2,sz:=39 }
theorem aCO {β:Type} (fu:Nat) (G:FG β) (H:FH β) (v5:Int) (aQ bA cT gI:List Int):fI prog (QO T0 R0 T1 R1 aN T2 R2 bC bW T3 R3 bO T4 R4 eV T5 R5 fW iU) fu TP G H (IZ v5 aQ bA cT gI)=bif decide (0 <= v5) then (R2 [.agg (.ints .u64 gI) 8,.agg (.ints .u64 gI) 8]).bind λ t=>(R3 [.agg (.ints .u64 aQ) 8,.int .i64 v5]).bind λ dH=>(R4 [.agg (.ints .u64 ((bC t).set 0 (Du .u64 ((bC t).getD 0 0) (bO dH)))) 8,.agg (.ints .u64 cT) 8]).bind λ eU=>bif decide (0 <= eV eU) then (R5 [.agg (.ints .u64 ((bC t).set 0 (Du .u64 ((bC t).getD 0 0) (bO dH)))) 8,.agg (.ints .u64 cT) 8]).bind λ t=>G (some (IZ (i64.wrap (v5 - 1)) aQ bA cT (fW t))) else G (some (IZ (i64.wrap (v5 - 1)) aQ bA cT ((bC t).set 0 (Du .u64 ((bC t).getD 0 0) (bO dH))))) else H (Ex.exit 0) (some (QQ bA gI)):=by kernel_rfl
theorem aCP (fu:Nat) (aQ bA:List Int):TQ T0 R0 T1 R1 aN T2 R2 bC bW T3 R3 bO T4 R4 eV T5 R5 fW iU fu  (Ex.exit 0) (QQ aQ bA)=some (AV.agg (.ints .u64 bA) 8):=by kernel_rfl
end
section
variable (T0:Type) (R0:FA T0) (aG:T0->List Int)
end
section
variable (T0:Type) (R0:FA T0) (aG:T0->List Int) (aM:T0->Bool) (T1:Type) (R1:FA T1) (aN:T1->List Int)
end
section
variable (T0:Type) (R0:FA T0) (T1:Type) (R1:FA T1) (aN:T1->List Int) (T2:Type) (R2:FA T2) (bC:T2->List Int) (bW:T2->Bool) (T3:Type) (R3:FA T3) (bO:T3->List Int) (T4:Type) (R4:FA T4) (eV:T4->List Int) (T5:Type) (R5:FA T5) (fW:T5->Int)
end
def aOx:Cg:=⟨⟨dE [],[],dR⟩,[]⟩
theorem aSs (fu:Nat) (a b c d e f g h:Int):bB prog Tryz.f14 aOx fu [W8 [a,b,c,d,e,f,g,h]]=some (AV.bool (decide ([a,b,c,d,e,f,g,h]=[0,0,0,0,0,0,0,0]))):=by kernel_rfl
section
variable (T0:Type) (R0:FA T0) (aG:T0->List UInt8)
end
section
variable (T0:Type) (R0:FA T0) (aG:T0->List Int)
end
section
variable (T0:Type) (R0:FA T0) (aG:T0->List Int) (T1:Type) (R1:FA T1) (aN:T1->List Int) (T2:Type) (R2:FA T2) (T3:Type) (R3:FA T3) (bO:T3->List Int) (T4:Type) (R4:FA T4) (eV:T4->Bool) (T5:Type) (R5:FA T5) (fW:T5->Bool)
end
section
variable (T0:Type) (R0:FA T0)
end
section
variable (T0:Type) (R0:FA T0)
end
set_option maxRecDepth 4000
theorem aXN {x b:Nat} (hx:x%2=0) (hb:b < 2):x ||| b=x+b:=by
 have h:=yV (i:=1) (b:=b) (by omega) (x / 2);have e:2 ^ 1*(x / 2)=x:=by omega
 rw [e] at h;exact h.symm
theorem aSt {n b:Nat} (hn:n%2=0) (hb:b < 2):(cQ 8 n).set 0 (Du .u64 ((cQ 8 n).getD 0 0) (b:Int))=cQ 8 (n+b):=by
 show Du .u64 ((n%18446744073709551616:Nat):Int) (b:Int) :: cQ 7 (n / 18446744073709551616)=(((n+b)%18446744073709551616:Nat):Int) :: cQ 7 ((n+b) / 18446744073709551616);rw [NZ _ _ (bK _ (by decide)) (by omega),aXN (by omega) hb];have e1:(n+b)%18446744073709551616=n%18446744073709551616+b:=by omega
 have e2:(n+b) / 18446744073709551616=n / 18446744073709551616:=by omega
 rw [e1,e2]
theorem TR {n:Nat} (h:n < fK):val (cQ 8 n)=n:=by rw [kM]; exact aV h
theorem V2:LN < fK:=by decide +kernel
abbrev aSu:Cg:=aOw (Nat × Int) DN (λ t=>cQ 8 t.fst) (λ t=>t.snd) (Int) rOf (λ t=>[t,0,0,0,0,0,0,0]) (Nat) qM (λ t=>cQ 8 t) (Nat × Bool) KP (λ t=>cQ 8 t.fst) (λ t=>t.snd)
theorem aJt:CfOk prog aSu.c:=gk <| aA CX <| aA Wo <| aA I6 <| aA Ts <| aK
theorem aCQ:CallOk prog 87 aJq:=by
 refine i7 aJt Tryz.func87 ?_;intro args t ht;unfold aJq at ht;simp only at ht;split at ht
 ·refine (aSp ..).trans ?_;have d1:=GE (s:=[50,55,55,52,50,51,49,55,55,55,55,51,55,50,51,53,51,53,51,53,56,53,49,57,51,55,55,57,48,56,56,51,54,52,56,52,57,51]) (by decide +kernel);rw [show z6 [50,55,55,52,50,51,49,55,55,55,55,51,55,50,51,53,51,53,51,53,56,53,49,57,51,55,55,57,48,56,56,51,54,52,56,52,57,51]=(27742317777372353535851937790883648493,0) by decide +kernel] at d1;have s1:qM [AV.agg (TRow.ints u64 [1,0,0,0,0,0,0,0]) 8,AV.int i64 252]=some 7237005577332262213973186563042994240829374041602535252466099000494570602496:=(vX (b:=[1,0,0,0,0,0,0,0]) (by decide) 252).trans (by decide +kernel);have a1:KP [AV.agg (TRow.ints u64 (cQ 8 7237005577332262213973186563042994240829374041602535252466099000494570602496)) 8,AV.agg (TRow.ints u64 (cQ 8 27742317777372353535851937790883648493)) 8]=some (LN,true) :=
   (Mk (fA _) (fA _)).trans (by decide +kernel)
  have o1:rOf [AV.int u64 1]=some 1:=rfl;refine (dQ (λ o=>Option.bind o _) d1).trans ?_;rw [aC,o1,aC,s1,aC,a1];rfl
 ·cases ht
abbrev aCR:Cg:=QO (PUnit) aSn (Nat) aCG (λ t=>↑t) (Nat × Bool) KP (λ t=>cQ 8 t.fst) (λ t=>t.snd) (Nat) aSl (λ t=>↑t) (Int) aCH (λ t=>t) (Nat × Bool) TL (λ t=>cQ 8 t.fst) (λ t=>t.snd)
theorem aJu:CfOk prog aCR.c:=gk <| aA aCQ <| aA TK <| aA Ts <| aA Ng <| aA aEa <| aA Nd <| aK
theorem aCS (n i:Nat):n / 2 ^ i=2*(n / 2 ^ (i+1))+n / 2 ^ i%2:=by
 rw [bM,<-gR];omega
theorem aCT {q b:Nat}:(2*q+b)%LN=(2*(q%LN)+b)%LN:=by
 rw [Ed,pU,Ed (2*(q%LN)),pU 2 (q%LN),sL]
theorem aCU {a:List Int} (ha:jO a=true) (fu:Nat):∀ (i n:Nat),i <= 512->i < n ->
  eS prog aCR fu TP (TQ PUnit aSn Nat aCG (λ t=>↑t) (Nat × Bool) KP (λ t=>cQ 8 t.fst) (λ t=>t.snd) Nat aSl (λ t=>↑t) Int aCH (λ t=>t) (Nat × Bool) TL (λ t=>cQ 8 t.fst) (λ t=>t.snd) fu) n
   (some (IZ ((i:Int) - 1) a [0,0,0,0,0,0,0,0] (cQ 8 LN) (cQ 8 (val a / 2 ^ i%LN))))=some (eW (val a%LN)):=by
 intro i
 induction i with
 | zero=>
  intro n _ hn;obtain ⟨n,rfl⟩:=aP (by omega:n ≠ 0);rw [aF,aCO,aH (by omega),aD,aR,aCP,jL,uS];rfl
 | succ i ih=>
  intro n hi hn;obtain ⟨n,rfl⟩:=aP (by omega:n ≠ 0);have h:=ih n (by omega) (by omega);have hr:val a / 2 ^ (i+1)%LN < LN:=bK _ (by decide);have hb:val a / 2 ^ i%2 < 2:=bK _ (by omega);have hnew:val a / 2 ^ i%LN=(2*(val a / 2 ^ (i+1)%LN)+val a / 2 ^ i%2)%LN:=by
   rw [<-aCT,<-aCS]
  rw [hnew] at h;have bt:=Vm ha (i:Int);have hbn:mH (val a) (i:Int)=val a / 2 ^ i%2:=by
   rw [mH,aH (by omega),aD,bE]
  rw [hbn] at bt;generalize val a / 2 ^ (i+1)%LN=r at *;generalize val a / 2 ^ i%2=b at *;clear hnew hbn ih;have ad:=Mk (fA r) (fA r);rw [Tq,TR (fC hr V2)] at ad;have h2:2*r+b < fK:=cU (show 2*r+b < 2*LN by omega) (by decide +kernel);have cm:=Vw (fA (2*r+b)) (fA LN);rw [TR h2,TR V2] at cm;have sb:=Mj (fA (2*r+b)) (fA LN);rw [Tr,TR h2,TR V2] at sb;have ol:=aSt (n:=r+r) (b:=b) (by omega) hb;rw [show r+r+b=2*r+b by omega] at ol;have w1:i64.wrap ((((i+1:Nat):Int) - 1) - 1)=(i:Int) - 1:=by
   rw [show (((i+1:Nat):Int) - 1) - 1=(i:Int) - 1 by omega];exact bY (by omega) (by omega)
  have w2:(((i+1:Nat):Int) - 1)=(i:Int):=by omega
  simp only [W8] at *;rw [aF,aCO,aE (by omega),aB,ad,aC,w2,bt,aC];dsimp only;rw [ol,cm,aC,Az];rw [w2] at w1;by_cases g:LN <= 2*r+b
  ·rw [aE g,aB,sb,aC,w1];have e:cQ 8 (2*r+b+fK - LN)=cQ 8 ((2*r+b)%LN):=by
    rw [Nat.mod_eq_sub_mod g,aV (by omega),show 2*r+b+fK - LN=(2*r+b - LN)+fK by omega,QN]
   dsimp only;rw [e];exact h
  ·rw [aH g,aD,w1];rw [aV (by omega)] at h;exact h
theorem V3:CallOk prog 39 Vy:=by
 refine aZ (fu:=λ _=>600) aJu Tryz.func39 ?_;intro args t ht;obtain ⟨a,rfl,ha,rfl⟩:=xL (F:=λ a=>val a%LN) ht;refine (aSr ..).trans ?_;have o:aSn []=some ():=rfl;have l:=Ml ha;have hb:bl (val a) <= 512:=by
  have h:=To a (tA ha);rw [uD ha] at h;exact Mm (val a) 8 h
 simp only [W8] at l;rw [o,aC,l,aC];have h:=aCU ha 600 (bl (val a)) 600 hb (by omega);have h0:val a / 2 ^ bl (val a)%LN=0:=by
  rw [jJ (xK (val a)).1]; rfl
 rw [h0] at h;have w:i64.wrap ((bl (val a):Int) - 1)=(bl (val a):Int) - 1:=bY (by omega) (by omega);rw [w];exact h
theorem aCV {a:List Int} (h:jO a=true):aCM [W8 a]=some (val a%LN):=by
 simp only [aCM,Vy];exact vZ (λ a=>val a%LN) h
set_option maxRecDepth 4000
abbrev aSv:Cg:=aOx 
theorem aJv:CfOk prog aSv.c:=gk <| aK
theorem K1:CallOk prog 14 Mo:=by
 refine i7 aJv Tryz.func14 ?_;intro args t ht;obtain ⟨a,rfl,ha,rfl⟩:=xL (F:=λ a=>Nat.beq (val a) 0) ht;have hz:=pH (val a) (xP ha);rw [nK ha] at hz;obtain ⟨a0,a1,a2,a3,a4,a5,a6,a7,rfl⟩:=wF ha;refine (aSs ..).trans ?_;have:decide ([a0,a1,a2,a3,a4,a5,a6,a7]=[0,0,0,0,0,0,0,0])=Nat.beq (val [a0,a1,a2,a3,a4,a5,a6,a7]) 0:=by
  cases hb:Nat.beq (val [a0,a1,a2,a3,a4,a5,a6,a7]) 0
  ·refine aH λ h=>?_;rw [hz.1 h] at hb; cases hb
  ·exact aE (hz.2 (aS hb))
 rw [this]; rfl
end
end Go.Eng
