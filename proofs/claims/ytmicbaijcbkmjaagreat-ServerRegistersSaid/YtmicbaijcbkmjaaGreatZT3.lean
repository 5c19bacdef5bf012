import Derived.Test.YtmicbaijcbkmjaaGreatZT2
namespace Go.Eng
noncomputable section
open Go Go.Proofs
set_option linter.all false
set_option maxRecDepth 4000
theorem nbL {x:Nat} (h:x < aJ):(nb x).length <= 1048576:=cK (aO5 (Hn h)) (by rw [TO]; decide)
theorem qY:1 < aJ:=by decide
theorem XS:0 < aJ:=by decide
theorem aUa (x y:Nat):Sm x y < aJ:=by
 unfold Sm;exact mP _
theorem aLM (x y:Nat):xL x y < aJ:=by
 unfold xL;exact SP qY (mP _)
theorem aUb (x y:Nat):Vm x y < aJ:=by
 unfold Vm;exact mP _
theorem aLN {de y2:Nat} (hd:de < aJ) (hy:y2 < aJ):yY [eN 1,eN y2]=some ((1+aJ - y2)%aJ) /\ oN [eN de,eN ((1+aJ - y2)%aJ)]=some (de*((1+aJ - y2)%aJ)%aJ) /\
  DK [eN (de*((1+aJ - y2)%aJ)%aJ)]=some (oW (de*((1+aJ - y2)%aJ)%aJ)) /\ aIu [eN (oW (de*((1+aJ - y2)%aJ)%aJ))]=some (lo 32 (oW (de*((1+aJ - y2)%aJ)%aJ))) :=
 ⟨nI qY hy,bJ hd (mP _),zX (mP _),aJN (nbL (HS (mP _)))⟩
abbrev aUc:Cg:=aOr (Nat × Nat) YC (λ t=>nb t.fst) (λ t=>(nb t.fst).length) (λ t=>nb t.snd) (λ t=>(nb t.snd).length) (Nat) F7 (λ t=>nb t) (λ t=>(nb t).length) (Nat) yY (λ t=>nb t) (λ t=>(nb t).length) (Nat) oN (λ t=>nb t) (λ t=>(nb t).length) (Nat × Bool) IB (λ t=>nb t.fst) (λ t=>(nb t.fst).length) (λ t=>t.2) (Bool) F8 (λ t=>t) (Nat) rRI (λ t=>nb t) (λ t=>(nb t).length) (Nat) Vg (λ t=>nb t) (λ t=>(nb t).length) (Nat) DK (λ t=>nb t) (λ t=>(nb t).length) (List Int) aIu (λ t=>t)
theorem aLO:CfOk prog aUc.c:=gk <| aA aAv <| aA Mo <| aA DU <| aA tX <| aA Xk <| aA Mp <| aA aGR <| aA Mm <| aA G7 <| aA aSP <| aK
theorem UI:CallOk prog 51 P8:=by
 refine i4 aLO Tryz.func51 ?_;intro args t ht;obtain ⟨p,rfl,hp,rfl⟩:=Rr (F:=λ r=>lo 32 (kK (Bl r).1 (Bl r).2)) ht;have e0:=Uk hp;have hx:(Bl p).1 < aJ:=mP _;have hy:(Bl p).2 < aJ:=mP _;refine (aSb ..).trans ?_;refine aI e0 ?_;show _=some (lR (lo 32 (kK (Bl p).1 (Bl p).2)));generalize Bl p=xy at *;obtain ⟨x,y⟩:=xy;dsimp only at *;have k1:=aUa x y;have kI:=aLM x y;have kz:=aUb x y;have g3:oN [eN ((1+y)%aJ),eN ((1+aJ - y)%aJ)]=some (Sm x y):=bJ (mP _) (mP _);have g6:=bJ k1 (mP (x*y%aJ*(x*y%aJ)));have g7:=Ra qY (mP (Sm x y*(x*y%aJ*(x*y%aJ)%aJ)));have hI:xL x y=(Bi 1 (Sm x y*(x*y%aJ*(x*y%aJ)%aJ)%aJ)).1:=rfl;have g8:=bJ kI k1;have g9:=bJ kI (mP (x*y));have g10:=bJ (mP (xL x y*Sm x y)) (mP (xL x y*(x*y%aJ)));have g11:oN [eN (xL x y*Sm x y%aJ*(xL x y*(x*y%aJ)%aJ)%aJ),eN (x*y%aJ)]=some (Vm x y):=bJ (mP _) (mP _);have g12:=bJ (mP (x*y)) kz;have g13:F8 [eN (x*y%aJ*Vm x y%aJ)]=some (Ez x y):=zW (nbL (mP _));have dx:xR x y=cond (Ez x y) (y*iN%aJ) x:=rfl;have dy:yR x y=cond (Ez x y) (x*iN%aJ) y:=rfl;have dd:P7 x y=cond (Ez x y) (xL x y*Sm x y%aJ*Yz%aJ) (xL x y*(x*y%aJ)%aJ):=rfl;have dy2:y2R x y=cond (Nat.beq (xR x y*Vm x y%aJ%2) 1) ((0+aJ - yR x y)%aJ) (yR x y):=rfl;have dB:kK x y=oW (P7 x y*((1+aJ - y2R x y)%aJ)%aJ):=rfl;have k2:=aHd (x:=x) hy;have ky:=aHc (x:=x) hy;have kx:xR x y < aJ:=EZ (mP _) hx;have kd:P7 x y < aJ:=EZ (mP _) (mP _);obtain ⟨b1,b2,b3,b4⟩:=aLN kd k2;rw [<-dB] at b3 b4;have g15:=bJ kx kz;have g16:=zW (nbL (mP (xR x y*Vm x y)));have g17:=nI XS ky;refine aI (vZ qY hy) ?_;refine aI (nI qY hy) ?_;refine aI g3 ?_;refine aI (bJ hx hy) ?_;refine aI (bJ (mP (x*y)) (mP (x*y))) ?_;refine aI g6 ?_;refine aI g7 ?_;rw [<-hI];generalize Bi 1 (Sm x y*(x*y%aJ*(x*y%aJ)%aJ)%aJ)=R at *;refine aI g8 ?_;refine aI g9 ?_;refine aI g10 ?_;refine aI g11 ?_;refine aI g12 ?_;refine aI g13 ?_;have m1:=bJ hy Xi;have m2:=bJ hx Xi;have m3:=bJ (mP (xL x y*Sm x y)) (show Yz < aJ by decide);generalize kK x y=B at *;generalize P7 x y=de at *;generalize y2R x y=y2 at *;generalize yR x y=yy at *;generalize xR x y=xx at *;generalize Ez x y=rot at *;cases rot
 ·rw [aD] at dx dy dd;rw [aD];subst dx dy dd;refine aI g15 ?_;refine aI g16 ?_;generalize Nat.beq (xx*Vm xx yy%aJ%2) 1=od at *;cases od
  ·rw [aD] at dy2;subst dy2;rw [aD];refine aI b1 ?_;refine aI b2 ?_;refine aI b3 ?_;refine aI b4 ?_;rfl
  ·rw [aB] at dy2;subst dy2;rw [aB];refine aI g17 ?_;refine aI b1 ?_;refine aI b2 ?_;refine aI b3 ?_;refine aI b4 ?_;rfl
 ·rw [aB] at dx dy dd;rw [aB];subst dx dy dd;refine aI OL ?_;refine aI m1 ?_;refine aI OL ?_;refine aI m2 ?_;refine aI (Y2 (n:=Yz) (by decide +kernel) (by decide +kernel)) ?_;refine aI m3 ?_;refine aI g15 ?_;refine aI g16 ?_;generalize Nat.beq (y*iN%aJ*Vm x y%aJ%2) 1=od at *;cases od
  ·rw [aD] at dy2;subst dy2;rw [aD];refine aI b1 ?_;refine aI b2 ?_;refine aI b3 ?_;refine aI b4 ?_;rfl
  ·rw [aB] at dy2;subst dy2;rw [aB];refine aI g17 ?_;refine aI b1 ?_;refine aI b2 ?_;refine aI b3 ?_;refine aI b4 ?_;rfl
theorem RF {p:RP} (h:p.ok):P9 [Ei p]=some (lo 32 (kK (Bl p).1 (Bl p).2)):=aGF (λ r=>lo 32 (kK (Bl r).1 (Bl r).2)) h
def aUd (s:Str):Pt × Int :=
 cond (Nat.beq s.length 64) (Cn (nE (rR ((s.take 32).map lP))) (nE (rR ((s.drop 32).map lP))) FT,0) (gZ,4)
def aUe:Summ where
 T:=Pt × Int
 run:=λ
  | [.c (.s (.pl (.str s)))]=>some (aUd s)
  | _=>none
 enc:=ePE
def aE4:Summ where
 T:=Pt
 run:=λ
  | [.c (.s (.pl (.str s)))]=>cond (Nat.beq s.length 32) (some (nE (rR (s.map lP)))) none
  | _=>none
 enc:=eP
def aO7:FA Pt:=aE4.run
set_option maxRecDepth 4000
theorem aE5 {T:Type} {F:List Int->Nat->T} {args:List AV} {t:T} (h:Vn F args=some t):∃ a d,args=[lR a,eN d] /\ fR a=true /\ d < aJ /\ t=F a d:=by
 unfold Vn at h;split at h
 ·obtain ⟨h1,h2⟩:=cC h;rw [aX] at h1;obtain ⟨x,rfl,rfl,hx,ex⟩:=jG h1.2;rw [ex] at h2;exact ⟨_,_,rfl,h1.1,hx,h2.symm⟩
 ·cases h
theorem aUf {T:Type} (F:List Int->Nat->T) {a:List Int} {d:Nat} (h:fR a=true) (hd:d < aJ):Vn F [lR a,eN d]=some (F a d):=by
 show cond (fR a && k8 (nb d) (nb d).length) (some (F a (vB (nb d)))) none=_;rw [h,jH hd,fY]; rfl
section
variable (T0:Type) (R0:FA T0) (aG:T0->List Int)
def aO8:Cg:=⟨⟨dD [(205,⟨R0,λ t=>AV.agg (.ints .u64 (aG t)) 20⟩)],[],dS⟩,[]⟩
theorem aUg (fu:Nat) (s:Str):bB prog Tryz.f204 (aO8 T0 R0 aG) fu [.str s]=bif decide (List.length s <= 1099511627776) then bif Nat.ble 32 (List.length s) then (R0 [.agg (.ints .u8 (List.take 32 (List.drop 0 (List.map lP s)))) 32]).bind λ t=>some (AV.agg (.ints .u64 (aG t)) 20) else none else none:=by kernel_rfl
end
section
variable (T0:Type) (R0:FA T0) (aG:T0->List Int) (T1:Type) (R1:FA T1) (aN:T1->List Int) (T2:Type) (R2:FA T2) (bC:T2->List Int)
def aO9:Cg:=⟨⟨dD [(64,⟨R0,λ t=>AV.agg (.ints .u64 (aG t)) 20⟩),(204,⟨R1,λ t=>AV.agg (.ints .u64 (aN t)) 20⟩),(206,⟨R2,λ t=>AV.agg (.ints .u64 (bC t)) 20⟩)],[],dS⟩,[]⟩
theorem aUh (fu:Nat) (s:Str):bB prog Tryz.f188 (aO9 T0 R0 aG T1 R1 aN T2 R2 bC) fu [.str s]=bif !decide ((↑(List.length s):Int)=64) then (R0 []).bind λ t=>some (AV.tup [.s (.pl (.agg (.ints .u64 (aG t)) 20)),.s (.pl (.int .i64 4))]) else bif decide ((0:Int) <= 0 /\ (0:Int) <= 32 /\ 32 <= (↑(List.length s):Int)) then (R1 [.str (sl s 0 32)]).bind λ t=>bif decide ((0:Int) <= 32 /\ 32 <= (↑(List.length s):Int) /\ (↑(List.length s):Int) <= (↑(List.length s):Int)) then (R1 [.str (sl s 32 (↑(List.length s):Int))]).bind λ dH=>(R2 [.agg (.ints .u64 (aN t)) 20,.agg (.ints .u64 (aN dH)) 20]).bind λ t=>some (AV.tup [.s (.pl (.agg (.ints .u64 (bC t)) 20)),.s (.pl (.int .i64 0))]) else none else none:=by kernel_rfl
end
section
variable (T0:Type) (R0:FA T0)
end
section
variable (T0:Type) (R0:FA T0) (T1:Type) (R1:FA T1) (aN:T1->List Int) (T2:Type) (R2:FA T2) (bC:T2->List Int) (T3:Type) (R3:FA T3) (bO:T3->List Int) (T4:Type) (R4:FA T4) (eV:T4->Bool)
end
set_option maxRecDepth 4000
abbrev aUi:Cg:=aO8 (Pt) aCg (λ t=>[↑t.x.a,↑t.x.b,↑t.x.c,↑t.x.d,↑t.x.e,↑t.y.a,↑t.y.b,↑t.y.c,↑t.y.d,↑t.y.e,↑t.z.a,↑t.z.b,↑t.z.c,↑t.z.d,↑t.z.e,↑t.t.a,↑t.t.b,↑t.t.c,↑t.t.d,↑t.t.e])
theorem aLP:CfOk prog aUi.c:=gk <| aA aCk <| aK
theorem aLQ:CallOk prog 204 aE4:=by
 refine i4 aLP Tryz.func204 ?_;intro args t ht;unfold aE4 at ht;simp only at ht;split at ht
 ·rename_i s;obtain ⟨h1,h2⟩:=cC ht;have hl:=aS h1;subst h2;have ho:fR (s.map lP)=true:=by rw [fR,iA,hl,HX]; rfl
  refine (aUg ..).trans ?_;refine GK (aE (by omega)) ?_;refine GK (by rw [lC]; omega) ?_;rw [kU,fB (by rw [iA]; omega)];refine aI (Y3 ho) ?_;rfl
 ·cases ht
theorem RG {s:Str} (h:s.length=32):aO7 [.str s]=some (nE (rR (s.map lP))):=by
 show cond (Nat.beq s.length 32) (some (nE (rR (s.map lP)))) none=_;rw [h]; rfl
theorem RH (a:List Int):qF (nE (rR a)):=aHk (Vp a)
abbrev aUj:Cg:=aO9 (Pt) JN (λ t=>[↑t.x.a,↑t.x.b,↑t.x.c,↑t.x.d,↑t.x.e,↑t.y.a,↑t.y.b,↑t.y.c,↑t.y.d,↑t.y.e,↑t.z.a,↑t.z.b,↑t.z.c,↑t.z.d,↑t.z.e,↑t.t.a,↑t.t.b,↑t.t.c,↑t.t.d,↑t.t.e]) (Pt) aO7 (λ t=>[↑t.x.a,↑t.x.b,↑t.x.c,↑t.x.d,↑t.x.e,↑t.y.a,↑t.y.b,↑t.y.c,↑t.y.d,↑t.y.e,↑t.z.a,↑t.z.b,↑t.z.c,↑t.z.d,↑t.z.e,↑t.t.a,↑t.t.b,↑t.t.c,↑t.t.d,↑t.t.e]) (Pt) Xc (λ t=>[↑t.x.a,↑t.x.b,↑t.x.c,↑t.x.d,↑t.x.e,↑t.y.a,↑t.y.b,↑t.y.c,↑t.y.d,↑t.y.e,↑t.z.a,↑t.z.b,↑t.z.c,↑t.z.d,↑t.z.e,↑t.t.a,↑t.t.b,↑t.t.c,↑t.t.d,↑t.t.e])
theorem aLR:CfOk prog aUj.c:=gk <| aA Ma <| aA aLQ <| aA aJq <| aK
theorem aUk:CallOk prog 188 aUe:=by
 refine i4 aLR Tryz.func188 ?_;intro args t ht;unfold aUe at ht;simp only at ht;split at ht
 ·rename_i s;cases ht;refine (aUh ..).trans ?_;show _=some (ePE (aUd s));have em:aUd s=cond (Nat.beq s.length 64) (Cn (nE (rR ((s.take 32).map lP))) (nE (rR ((s.drop 32).map lP))) FT,0) (gZ,4):=rfl;by_cases h:s.length=64
  ·have e1:sl s (0:Int) (32:Int)=s.take 32:=rfl;have e2:sl s (32:Int) ((s.length:Nat):Int)=s.drop 32:=by
    show List.take ((s.length:Int) - 32).toNat (List.drop 32 s)=_;exact fB (by rw [kX]; omega)
   have r1:=RG (s:=s.take 32) (by rw [dV]; omega);have r2:=RG (s:=s.drop 32) (by rw [kX]; omega);have r3:=SU (RH ((s.take 32).map lP)) (RH ((s.drop 32).map lP));rw [h,lB,aB] at em;rw [em];clear em;generalize nE (rR ((s.take 32).map lP))=H1 at *;generalize nE (rR ((s.drop 32).map lP))=H2 at *;rw [aE (by omega),jW,aD,e1,e2];refine GK (aE (by omega)) ?_;refine aI r1 ?_;refine GK (aE (by omega)) ?_;refine aI r2 ?_;refine aI r3 ?_;rfl
  ·have hb:Nat.beq s.length 64=false:=by
    cases e:Nat.beq s.length 64
    ·rfl
    ·exact absurd (aS e) h
   rw [hb,aD] at em;rw [em];have o:=Aj;generalize gZ=Np at *;rw [aH (by omega),lL,aB];refine aI o ?_;rfl
 ·cases ht
end
end Go.Eng
