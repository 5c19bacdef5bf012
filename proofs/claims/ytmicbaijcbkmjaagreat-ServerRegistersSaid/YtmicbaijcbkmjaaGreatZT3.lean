import Derived.Test.YtmicbaijcbkmjaaGreatZT2
namespace Go.Eng
noncomputable section
open Go Go.Proofs
set_option linter.all false
set_option maxRecDepth 4000
theorem nbL {x:Nat} (h:x < aJ):(nb x).length <= 1048576:=cK (aPQ (Hn h)) (by rw [Tl]; decide)
theorem qZ:1 < aJ:=by decide
theorem Xs:0 < aJ:=by decide
theorem aVL (x y:Nat):Sl x y < aJ:=by
 unfold Sl;exact mP _
theorem aMv (x y:Nat):xC x y < aJ:=by
 unfold xC;exact Q6 qZ (mP _)
theorem aVM (x y:Nat):VR x y < aJ:=by
 unfold VR;exact mP _
theorem aMw {de y2:Nat} (hd:de < aJ) (hy:y2 < aJ):y7 [eN 1,eN y2]=some ((1+aJ - y2)%aJ) /\ oR [eN de,eN ((1+aJ - y2)%aJ)]=some (de*((1+aJ - y2)%aJ)%aJ) /\
  Dp [eN (de*((1+aJ - y2)%aJ)%aJ)]=some (oY (de*((1+aJ - y2)%aJ)%aJ)) /\ aKY [eN (oY (de*((1+aJ - y2)%aJ)%aJ))]=some (lo 32 (oY (de*((1+aJ - y2)%aJ)%aJ))) :=
 ⟨nJ qZ hy,bJ hd (mP _),AD (mP _),aKl (nbL (Gy (mP _)))⟩
abbrev aVN:Cg:=aN3 (Nat × Nat) Vs (λ t=>nb t.fst) (λ t=>(nb t.fst).length) (λ t=>nb t.snd) (λ t=>(nb t.snd).length) (Nat) GK (λ t=>nb t) (λ t=>(nb t).length) (Nat) y7 (λ t=>nb t) (λ t=>(nb t).length) (Nat) oR (λ t=>nb t) (λ t=>(nb t).length) (Nat × Bool) JD (λ t=>nb t.fst) (λ t=>(nb t.fst).length) (λ t=>t.2) (Bool) GL (λ t=>t) (Nat) rRI (λ t=>nb t) (λ t=>(nb t).length) (Nat) XK (λ t=>nb t) (λ t=>(nb t).length) (Nat) Dp (λ t=>nb t) (λ t=>(nb t).length) (List Int) aKY (λ t=>t)
theorem aMx:CfOk prog aVN.c:=gk <| aA ZJ <| aA NV <| aA Da <| aA uC <| aA YX <| aA NW <| aA aC0 <| aA NT <| aA HJ <| aA aTu <| aK
theorem Uw:CallOk prog 51 PY:=by
 refine i7 aMx Tryz.func51 ?_;intro args t ht;obtain ⟨p,rfl,hp,rfl⟩:=QE (F:=λ r=>lo 32 (kC (Bf r).1 (Bf r).2)) ht;have e0:=TI hp;have hx:(Bf p).1 < aJ:=mP _;have hy:(Bf p).2 < aJ:=mP _;refine (aQt ..).trans ?_;refine aI e0 ?_;show _=some (lS (lo 32 (kC (Bf p).1 (Bf p).2)));generalize Bf p=xy at *;obtain ⟨x,y⟩:=xy;dsimp only at *;have k1:=aVL x y;have kI:=aMv x y;have kz:=aVM x y;have g3:oR [eN ((1+y)%aJ),eN ((1+aJ - y)%aJ)]=some (Sl x y):=bJ (mP _) (mP _);have g6:=bJ k1 (mP (x*y%aJ*(x*y%aJ)));have g7:=SY qZ (mP (Sl x y*(x*y%aJ*(x*y%aJ)%aJ)));have hI:xC x y=(Bh 1 (Sl x y*(x*y%aJ*(x*y%aJ)%aJ)%aJ)).1:=rfl;have g8:=bJ kI k1;have g9:=bJ kI (mP (x*y));have g10:=bJ (mP (xC x y*Sl x y)) (mP (xC x y*(x*y%aJ)));have g11:oR [eN (xC x y*Sl x y%aJ*(xC x y*(x*y%aJ)%aJ)%aJ),eN (x*y%aJ)]=some (VR x y):=bJ (mP _) (mP _);have g12:=bJ (mP (x*y)) kz;have g13:GL [eN (x*y%aJ*VR x y%aJ)]=some (En x y):=AC (nbL (mP _));have dx:xR x y=cond (En x y) (y*iN%aJ) x:=rfl;have dy:yR x y=cond (En x y) (x*iN%aJ) y:=rfl;have dd:PX x y=cond (En x y) (xC x y*Sl x y%aJ*Yl%aJ) (xC x y*(x*y%aJ)%aJ):=rfl;have dy2:y2R x y=cond (Nat.beq (xR x y*VR x y%aJ%2) 1) ((0+aJ - yR x y)%aJ) (yR x y):=rfl;have dB:kC x y=oY (PX x y*((1+aJ - y2R x y)%aJ)%aJ):=rfl;have k2:=aEO (x:=x) hy;have ky:=aEN (x:=x) hy;have kx:xR x y < aJ:=Dk (mP _) hx;have kd:PX x y < aJ:=Dk (mP _) (mP _);obtain ⟨b1,b2,b3,b4⟩:=aMw kd k2;rw [<-dB] at b3 b4;have g15:=bJ kx kz;have g16:=AC (nbL (mP (xR x y*VR x y)));have g17:=nJ Xs ky;refine aI (wE qZ hy) ?_;refine aI (nJ qZ hy) ?_;refine aI g3 ?_;refine aI (bJ hx hy) ?_;refine aI (bJ (mP (x*y)) (mP (x*y))) ?_;refine aI g6 ?_;refine aI g7 ?_;rw [<-hI];generalize Bh 1 (Sl x y*(x*y%aJ*(x*y%aJ)%aJ)%aJ)=R at *;refine aI g8 ?_;refine aI g9 ?_;refine aI g10 ?_;refine aI g11 ?_;refine aI g12 ?_;refine aI g13 ?_;have m1:=bJ hy YV;have m2:=bJ hx YV;have m3:=bJ (mP (xC x y*Sl x y)) (show Yl < aJ by decide);generalize kC x y=B at *;generalize PX x y=de at *;generalize y2R x y=y2 at *;generalize yR x y=yy at *;generalize xR x y=xx at *;generalize En x y=rot at *;cases rot
 ·rw [aD] at dx dy dd;rw [aD];subst dx dy dd;refine aI g15 ?_;refine aI g16 ?_;generalize Nat.beq (xx*VR xx yy%aJ%2) 1=od at *;cases od
  ·rw [aD] at dy2;subst dy2;rw [aD];refine aI b1 ?_;refine aI b2 ?_;refine aI b3 ?_;refine aI b4 ?_;rfl
  ·rw [aB] at dy2;subst dy2;rw [aB];refine aI g17 ?_;refine aI b1 ?_;refine aI b2 ?_;refine aI b3 ?_;refine aI b4 ?_;rfl
 ·rw [aB] at dx dy dd;rw [aB];subst dx dy dd;refine aI O9 ?_;refine aI m1 ?_;refine aI O9 ?_;refine aI m2 ?_;refine aI (Yo (n:=Yl) (by decide +kernel) (by decide +kernel)) ?_;refine aI m3 ?_;refine aI g15 ?_;refine aI g16 ?_;generalize Nat.beq (y*iN%aJ*VR x y%aJ%2) 1=od at *;cases od
  ·rw [aD] at dy2;subst dy2;rw [aD];refine aI b1 ?_;refine aI b2 ?_;refine aI b3 ?_;refine aI b4 ?_;rfl
  ·rw [aB] at dy2;subst dy2;rw [aB];refine aI g17 ?_;refine aI b1 ?_;refine aI b2 ?_;refine aI b3 ?_;refine aI b4 ?_;rfl
theorem Rm {p:RP} (h:p.ok):PZ [Ei p]=some (lo 32 (kC (Bf p).1 (Bf p).2)):=aCv (λ r=>lo 32 (kC (Bf r).1 (Bf r).2)) h
def aVO (s:Str):Pt × Int :=
 cond (Nat.beq s.length 64) (CU (nB (rU ((s.take 32).map lO))) (nB (rU ((s.drop 32).map lO))) E4,0) (gZ,4)
def aVP:Summ where
 T:=Pt × Int
 run:=λ
  | [.c (.s (.pl (.str s)))]=>some (aVO s)
  | _=>none
 enc:=ePE
def aGG:Summ where
 T:=Pt
 run:=λ
  | [.c (.s (.pl (.str s)))]=>cond (Nat.beq s.length 32) (some (nB (rU (s.map lO)))) none
  | _=>none
 enc:=eP
def aPz:FA Pt:=aGG.run
set_option maxRecDepth 4000
theorem aGH {T:Type} {F:List Int->Nat->T} {args:List AV} {t:T} (h:VS F args=some t):∃ a d,args=[lS a,eN d] /\ fR a=true /\ d < aJ /\ t=F a d:=by
 unfold VS at h;split at h
 ·obtain ⟨h1,h2⟩:=cC h;rw [aX] at h1;obtain ⟨x,rfl,rfl,hx,ex⟩:=jC h1.2;rw [ex] at h2;exact ⟨_,_,rfl,h1.1,hx,h2.symm⟩
 ·cases h
theorem aVQ {T:Type} (F:List Int->Nat->T) {a:List Int} {d:Nat} (h:fR a=true) (hd:d < aJ):VS F [lS a,eN d]=some (F a d):=by
 show cond (fR a && kZ (nb d) (nb d).length) (some (F a (vB (nb d)))) none=_;rw [h,jD hd,fY]; rfl
section
variable (T0:Type) (R0:FA T0) (aG:T0->List Int)
def aPA:Cg:=⟨⟨dE [(205,⟨R0,λ t=>AV.agg (.ints .u64 (aG t)) 20⟩)],[],dR⟩,[]⟩
theorem aVR (fu:Nat) (s:Str):bB prog Tryz.f204 (aPA T0 R0 aG) fu [.str s]=bif decide (List.length s <= 1099511627776) then bif Nat.ble 32 (List.length s) then (R0 [.agg (.ints .u8 (List.take 32 (List.drop 0 (List.map lO s)))) 32]).bind λ t=>some (AV.agg (.ints .u64 (aG t)) 20) else none else none:=by kernel_rfl
end
section
variable (T0:Type) (R0:FA T0) (aG:T0->List Int) (T1:Type) (R1:FA T1) (aN:T1->List Int) (T2:Type) (R2:FA T2) (bC:T2->List Int)
def aPB:Cg:=⟨⟨dE [(64,⟨R0,λ t=>AV.agg (.ints .u64 (aG t)) 20⟩),(204,⟨R1,λ t=>AV.agg (.ints .u64 (aN t)) 20⟩),(206,⟨R2,λ t=>AV.agg (.ints .u64 (bC t)) 20⟩)],[],dR⟩,[]⟩
theorem aVS (fu:Nat) (s:Str):bB prog Tryz.f188 (aPB T0 R0 aG T1 R1 aN T2 R2 bC) fu [.str s]=bif !decide ((↑(List.length s):Int)=64) then (R0 []).bind λ t=>some (AV.tup [.s (.pl (.agg (.ints .u64 (aG t)) 20)),.s (.pl (.int .i64 4))]) else bif decide ((0:Int) <= 0 /\ (0:Int) <= 32 /\ 32 <= (↑(List.length s):Int)) then (R1 [.str (sl s 0 32)]).bind λ t=>bif decide ((0:Int) <= 32 /\ 32 <= (↑(List.length s):Int) /\ (↑(List.length s):Int) <= (↑(List.length s):Int)) then (R1 [.str (sl s 32 (↑(List.length s):Int))]).bind λ dH=>(R2 [.agg (.ints .u64 (aN t)) 20,.agg (.ints .u64 (aN dH)) 20]).bind λ t=>some (AV.tup [.s (.pl (.agg (.ints .u64 (bC t)) 20)),.s (.pl (.int .i64 0))]) else none else none:=by kernel_rfl
end
section
variable (T0:Type) (R0:FA T0)
end
section
variable (T0:Type) (R0:FA T0) (T1:Type) (R1:FA T1) (aN:T1->List Int) (T2:Type) (R2:FA T2) (bC:T2->List Int) (T3:Type) (R3:FA T3) (bO:T3->List Int) (T4:Type) (R4:FA T4) (eV:T4->Bool)
end
set_option maxRecDepth 4000
abbrev aVT:Cg:=aPA (Pt) aBd (λ t=>[↑t.x.a,↑t.x.b,↑t.x.c,↑t.x.d,↑t.x.e,↑t.y.a,↑t.y.b,↑t.y.c,↑t.y.d,↑t.y.e,↑t.z.a,↑t.z.b,↑t.z.c,↑t.z.d,↑t.z.e,↑t.t.a,↑t.t.b,↑t.t.c,↑t.t.d,↑t.t.e])
theorem aMy:CfOk prog aVT.c:=gk <| aA aBh <| aK
theorem aMz:CallOk prog 204 aGG:=by
 refine i7 aMy Tryz.func204 ?_;intro args t ht;unfold aGG at ht;simp only at ht;split at ht
 ·rename_i s;obtain ⟨h1,h2⟩:=cC ht;have hl:=aS h1;subst h2;have ho:fR (s.map lO)=true:=by rw [fR,iA,hl,Ha]; rfl
  refine (aVR ..).trans ?_;refine GI (aE (by omega)) ?_;refine GI (by rw [lC]; omega) ?_;rw [kU,fB (by rw [iA]; omega)];refine aI (Yp ho) ?_;rfl
 ·cases ht
theorem Rn {s:Str} (h:s.length=32):aPz [.str s]=some (nB (rU (s.map lO))):=by
 show cond (Nat.beq s.length 32) (some (nB (rU (s.map lO)))) none=_;rw [h]; rfl
theorem Ro (a:List Int):qF (nB (rU a)):=aEV (VU a)
abbrev aVU:Cg:=aPB (Pt) IX (λ t=>[↑t.x.a,↑t.x.b,↑t.x.c,↑t.x.d,↑t.x.e,↑t.y.a,↑t.y.b,↑t.y.c,↑t.y.d,↑t.y.e,↑t.z.a,↑t.z.b,↑t.z.c,↑t.z.d,↑t.z.e,↑t.t.a,↑t.t.b,↑t.t.c,↑t.t.d,↑t.t.e]) (Pt) aPz (λ t=>[↑t.x.a,↑t.x.b,↑t.x.c,↑t.x.d,↑t.x.e,↑t.y.a,↑t.y.b,↑t.y.c,↑t.y.d,↑t.y.e,↑t.z.a,↑t.z.b,↑t.z.c,↑t.z.d,↑t.z.e,↑t.t.a,↑t.t.b,↑t.t.c,↑t.t.d,↑t.t.e]) (Pt) V1 (λ t=>[↑t.x.a,↑t.x.b,↑t.x.c,↑t.x.d,↑t.x.e,↑t.y.a,↑t.y.b,↑t.y.c,↑t.y.d,↑t.y.e,↑t.z.a,↑t.z.b,↑t.z.c,↑t.z.d,↑t.z.e,↑t.t.a,↑t.t.b,↑t.t.c,↑t.t.d,↑t.t.e])
theorem aMA:CfOk prog aVU.c:=gk <| aA MC <| aA aMz <| aA aIf <| aK
theorem aVV:CallOk prog 188 aVP:=by
 refine i7 aMA Tryz.func188 ?_;intro args t ht;unfold aVP at ht;simp only at ht;split at ht
 ·rename_i s;cases ht;refine (aVS ..).trans ?_;show _=some (ePE (aVO s));have em:aVO s=cond (Nat.beq s.length 64) (CU (nB (rU ((s.take 32).map lO))) (nB (rU ((s.drop 32).map lO))) E4,0) (gZ,4):=rfl;by_cases h:s.length=64
  ·have e1:sl s (0:Int) (32:Int)=s.take 32:=rfl;have e2:sl s (32:Int) ((s.length:Nat):Int)=s.drop 32:=by
    show List.take ((s.length:Int) - 32).toNat (List.drop 32 s)=_;exact fB (by rw [kX]; omega)
   have r1:=Rn (s:=s.take 32) (by rw [dV]; omega);have r2:=Rn (s:=s.drop 32) (by rw [kX]; omega);have r3:=SE (Ro ((s.take 32).map lO)) (Ro ((s.drop 32).map lO));rw [h,lB,aB] at em;rw [em];clear em;generalize nB (rU ((s.take 32).map lO))=H1 at *;generalize nB (rU ((s.drop 32).map lO))=H2 at *;rw [aE (by omega),jW,aD,e1,e2];refine GI (aE (by omega)) ?_;refine aI r1 ?_;refine GI (aE (by omega)) ?_;refine aI r2 ?_;refine aI r3 ?_;rfl
  ·have hb:Nat.beq s.length 64=false:=by
    cases e:Nat.beq s.length 64
    ·rfl
    ·exact absurd (aS e) h
   rw [hb,aD] at em;rw [em];have o:=Aj;generalize gZ=Np at *;rw [aH (by omega),lL,aB];refine aI o ?_;rfl
 ·cases ht
end
end Go.Eng
