import Derived.Test.YtmicbaijcbkmjaaGreatZC4
import Derived.Test.YtmicbaijcbkmjaaGreatZG1
namespace Go.Eng
open Go.IntKind (u64 i64 u8)
noncomputable section
set_option linter.unusedVariables false
def ph (x:Fe):Fin QP:=fn (fv x)
theorem bL (x y:Fe):ph (aO x y)=ph x*ph y:=by
 unfold ph;rw [<-bQ,tZ]; exact mul_mod x y
theorem oV (x y:Fe):ph (gC x y)=ph x+ph y:=by
 unfold ph;rw [<-qL,tZ]; exact add_mod x y
theorem mF {x y:Fe} (hy:cN y):ph (cJ x y)=ph x - ph y:=aRK (Nw (x:=x) hy)
theorem B8 {n:Nat} (h:n < aJ):ph (fe n)=fn n:=by
 unfold ph;rw [CF (fC h (by decide))]
theorem II {x y:Fe}:kO x y=true ↔ ph x=ph y:=by
 unfold ph kO;rw [tZ];constructor
 ·intro h; exact aS h
 ·intro h; rw [h]; exact lB _
theorem aXI:ph dF=CP.d:=B8 (by decide)
theorem P7:ph f0=0:=t7
theorem aRQ:ph (fe 0)=0:=(B8 (by decide)).trans t7
theorem IJ:ph (fe 1)=1:=B8 (by decide)
structure PT (p:Pt) (g:CP.G):Prop where
 ok:qF p
 z:ph p.z ≠ 0
 x:ph p.x=g.1.1*ph p.z
 y:ph p.y=g.1.2*ph p.z
 t:ph p.t=g.1.1*g.1.2*ph p.z
section
variable {q:Nat} [NeZero q]
theorem ag1 {x1 y1 x2 y2 z1 z2 X G d p E:Fin q} (hX:X*p=x1*y2+x2*y1) (hG:G=(z1+z1)*z2*p)
  (hE:E=(y1*z1+x1*z1)*(y2*z2+x2*z2) - (y1*z1 - x1*z1)*(y2*z2 - x2*z2)):E=X*G:=by
 subst hG hE;grind (splits:=0) -lia -linarith
theorem ag2 {x1 y1 x2 y2 z1 z2 Y F d m H:Fin q} (hY:Y*m=y1*y2+x1*x2) (hF:F=(z1+z1)*z2*m)
  (hH:H=(y1*z1+x1*z1)*(y2*z2+x2*z2)+(y1*z1 - x1*z1)*(y2*z2 - x2*z2)):H=Y*F:=by
 subst hF hH;grind (splits:=0) -lia -linarith
theorem ag3 {x1 y1 x2 y2 z1 z2 d p G:Fin q} (hp:p=1+d*x1*y1*x2*y2) (hG:G=(z1+z1)*z2+x1*y1*z1*(d+d)*(x2*y2*z2)):G=(z1+z1)*z2*p:=by
 subst hp hG;grind (splits:=0) -lia -linarith
theorem ag4 {x1 y1 x2 y2 z1 z2 d m F:Fin q} (hm:m=1 - d*x1*y1*x2*y2) (hF:F=(z1+z1)*z2 - x1*y1*z1*(d+d)*(x2*y2*z2)):F=(z1+z1)*z2*m:=by
 subst hm hF;grind (splits:=0) -lia -linarith
theorem ag5 {E F G H X Y:Fin q} (hE:E=X*G) (hH:H=Y*F):E*F=X*(F*G) /\ G*H=Y*(F*G) /\ E*H=X*Y*(F*G):=by
 subst hE hH;refine ⟨?_,?_,?_⟩ <;> grind (splits:=0) -lia -linarith
theorem aCh (C:Cur q) {z:Fin q} (hz:z ≠ 0):z+z ≠ 0:=λ h=>by
 have h:2*z=0:=by grind (splits:=0) -lia -linarith
 exact (C.noz _ _ h).elim C.h2 hz
theorem dg1 {x y z X p G E:Fin q} (hX:X*p=x*y+x*y) (hG:G=-(p*(z*z))) (hE:E=x*z*(x*z)+y*z*(y*z) - (x*z+y*z)*(x*z+y*z)):E=X*G:=by
 subst hG hE;grind (splits:=0) -lia -linarith
theorem dg2 {x y z Y m F H:Fin q} (hY:Y*m=y*y+x*x) (hF:F=m*(z*z)) (hH:H=x*z*(x*z)+y*z*(y*z)):H=Y*F:=by
 subst hF hH;grind (splits:=0) -lia -linarith
theorem dg3 {x y z d p:Fin q} (o:On d x y) (hp:p=1+d*x*y*x*y):x*z*(x*z) - y*z*(y*z)=-(p*(z*z)):=by
 unfold On at o;subst hp;grind (splits:=0) -lia -linarith
theorem dg4 {x y z d m:Fin q} (o:On d x y) (hm:m=1 - d*x*y*x*y):z*z+z*z+(x*z*(x*z) - y*z*(y*z))=m*(z*z):=by
 unfold On at o;subst hm;grind (splits:=0) -lia -linarith
end
theorem aRR {p q:Pt} {g h:CP.G} (hp:PT p g) (hq:PT q h):PT (CU p q E4) (CP.add g h):=by
 have o1:=hp.ok;have o2:=hq.ok;have hX:=CP.ad_x g.2 h.2;have hY:=CP.ad_y g.2 h.2;have p0:=CP.dp_ne g.2 h.2;have m0:=CP.dm_ne g.2 h.2;have eA:ph (aO (cJ p.y p.x) (cJ q.y q.x))=(g.1.2*ph p.z - g.1.1*ph p.z)*(h.1.2*ph q.z - h.1.1*ph q.z):=by
  rw [bL,mF o1.1,mF o2.1,hp.y,hp.x,hq.y,hq.x]
 have eB:ph (aO (gC p.y p.x) (gC q.y q.x))=(g.1.2*ph p.z+g.1.1*ph p.z)*(h.1.2*ph q.z+h.1.1*ph q.z):=by
  rw [bL,oV,oV,hp.y,hp.x,hq.y,hq.x]
 have eC:ph (aO (aO p.t E4) q.t)=g.1.1*g.1.2*ph p.z*(CP.d+CP.d)*(h.1.1*h.1.2*ph q.z):=by
  rw [bL,bL,hp.t,hq.t,E4,oV,aXI]
 have eD:ph (aO (gC p.z p.z) q.z)=(ph p.z+ph p.z)*ph q.z:=by rw [bL,oV]
 have okA:cN (aO (cJ p.y p.x) (cJ q.y q.x)):=aL (cL o1.2.1) (cL o2.2.1);have okC:cN (aO (aO p.t E4) q.t):=aL (aL o1.2.2.2 Lr) o2.2.2.2;have eE:=(mF (x:=aO (gC p.y p.x) (gC q.y q.x)) okA).trans (by rw [eA,eB]);have eF:=(mF (x:=aO (gC p.z p.z) q.z) okC).trans (by rw [eC,eD]);have eG:=(oV (aO (gC p.z p.z) q.z) (aO (aO p.t E4) q.t)).trans (by rw [eC,eD]);have eH:=(oV (aO (gC p.y p.x) (gC q.y q.x)) (aO (cJ p.y p.x) (cJ q.y q.x))).trans (by rw [eA,eB]);have kG:=ag3 (d:=CP.d) (p:=CP.dp g.1 h.1) rfl eG;have kF:=ag4 (d:=CP.d) (m:=CP.dm g.1 h.1) rfl eF;have kE:=ag1 (d:=CP.d) hX kG eE;have kH:=ag2 (d:=CP.d) hY kF eH;have k:=ag5 kE kH;have h2:(ph p.z+ph p.z)*ph q.z ≠ 0:=CP.mul_ne (aCh CP hp.z) hq.z;refine ⟨Oy o1 o2 Lr,?_,?_,?_,?_⟩
 ·show ph (aO _ _) ≠ 0;rw [bL,kF,kG];exact CP.mul_ne (CP.mul_ne h2 m0) (CP.mul_ne h2 p0)
 ·show ph (aO _ _)=_*ph (aO _ _);rw [bL,bL]; exact k.1
 ·show ph (aO _ _)=_*ph (aO _ _);rw [bL,bL]; exact k.2.1
 ·show ph (aO _ _)=_*ph (aO _ _);rw [bL,bL]; exact k.2.2
theorem TA {p:Pt} {g:CP.G} (hp:PT p g):PT (Gm p) (CP.add g g):=by
 have o1:=hp.ok;have hX:=CP.ad_x g.2 g.2;have hY:=CP.ad_y g.2 g.2;have p0:=CP.dp_ne g.2 g.2;have m0:=CP.dm_ne g.2 g.2;have okx:=aL o1.1 o1.1;have oky:=aL o1.2.1 o1.2.1;have ea:ph (aO p.x p.x)=g.1.1*ph p.z*(g.1.1*ph p.z):=by rw [bL,hp.x]
 have eb:ph (aO p.y p.y)=g.1.2*ph p.z*(g.1.2*ph p.z):=by rw [bL,hp.y]
 have eh:=(oV (aO p.x p.x) (aO p.y p.y)).trans (by rw [ea,eb]);have eg:=(mF (x:=aO p.x p.x) oky).trans (by rw [ea,eb]);have ez:ph (gC (aO p.z p.z) (aO p.z p.z))=ph p.z*ph p.z+ph p.z*ph p.z:=by rw [oV,bL]
 have ef:=(oV (gC (aO p.z p.z) (aO p.z p.z)) (cJ (aO p.x p.x) (aO p.y p.y))).trans (by rw [ez,eg]);have es:ph (aO (gC p.x p.y) (gC p.x p.y))=(g.1.1*ph p.z+g.1.2*ph p.z)*(g.1.1*ph p.z+g.1.2*ph p.z):=by rw [bL,oV,hp.x,hp.y]
 have ee:=(mF (x:=gC (aO p.x p.x) (aO p.y p.y)) (aL (cD o1.1 o1.2.1) (cD o1.1 o1.2.1))).trans (by rw [eh,es]);have kG:=eg.trans (dg3 (p:=CP.dp g.1 g.1) g.2 rfl);have kF:=ef.trans (dg4 (m:=CP.dm g.1 g.1) g.2 rfl);have kE:=dg1 hX kG ee;have kH:=dg2 hY kF eh;have k:=ag5 kE kH;have h2:ph p.z*ph p.z ≠ 0:=CP.mul_ne hp.z hp.z;refine ⟨Hf o1,?_,?_,?_,?_⟩
 ·show ph (aO _ _) ≠ 0;rw [bL,kF,kG];refine CP.mul_ne (CP.mul_ne m0 h2) λ h=>CP.mul_ne p0 h2 ?_;grind (splits:=0) -lia -linarith
 ·show ph (aO _ _)=_*ph (aO _ _);rw [bL,bL]; exact k.1
 ·show ph (aO _ _)=_*ph (aO _ _);rw [bL,bL]; exact k.2.1
 ·show ph (aO _ _)=_*ph (aO _ _);rw [bL,bL]; exact k.2.2
theorem P8 {x y:Fe} (hx:cN x) (hy:cN y) (o:CP.On2 (ph x,ph y)):PT (CT x y) ⟨(ph x,ph y),o⟩:=by
 refine ⟨SB hx hy,?_,?_,?_,?_⟩
 ·show ph (fe 1) ≠ 0;rw [IJ]; exact CP.h1
 ·show ph x=ph x*ph (fe 1);rw [IJ,Ao]
 ·show ph y=ph y*ph (fe 1);rw [IJ,Ao]
 ·show ph (aO x y)=ph x*ph y*ph (fe 1);rw [IJ,Ao,bL]
theorem Vn:PT gZ CP.zero:=by
 have h:=P8 (x:=fe 0) (y:=fe 1) (cV 0) (cV 1) (by rw [aRQ,IJ]; exact CP.zero_on);have e:(⟨(ph (fe 0),ph (fe 1)),by rw [aRQ,IJ]; exact CP.zero_on⟩:CP.G)=CP.zero:=yW (by show (ph (fe 0),ph (fe 1))=_; rw [aRQ,IJ]; rfl);rwa [e] at h
open Go Go.Proofs
set_option linter.unusedSimpArgs false
set_option maxRecDepth 4000
def Gx:Summ where
 T:=Nat
 run:=λ
  | [.c (.s (.pl (.str s)))]=>cond (Nat.ble s.length 64) (some (vS s%LN)) none
  | _=>none
 enc:=λ t=>.tup [.s (.pl (.agg (.ints .u64 (cQ 8 t)) 8)),.s (.pl (.int .i64 0))]
def Vo:FA Nat:=Gx.run
def aRS:Summ:={ T:=Nat,run:=Gl 7237005577332262213973186563042994240857116359379907606001950938285454250989,enc:=eN }
def aXJ:FA Nat:=aRS.run
def Ma:Summ:={ T:=Nat,run:=mJ (λ x=>x%LN) λ x=>Nat.blt x lJ,enc:=eN }
def TB:FA Nat:=Ma.run
def aCi:Summ:={ T:=Nat,run:=wK λ a=>vB a,enc:=eN }
def aCj:FA Nat:=aCi.run
section
variable (T0:Type) (R0:FA T0) (aG:T0->List Int) (aM:T0->Int) (T1:Type) (R1:FA T1) (aN:T1->List Int)
def aOl:Cg:=⟨⟨dE [(38,⟨R0,λ t=>AV.tup [.s (.pl (.agg (.ints .u64 (aG t)) 8)),.s (.pl (.int .i64 (aM t)))]⟩),(39,⟨R1,λ t=>AV.agg (.ints .u64 (aN t)) 8⟩)],[],dR⟩,[]⟩
theorem aRT (fu:Nat) (s:Str):bB prog Tryz.f22 (aOl T0 R0 aG aM T1 R1 aN) fu [.str s]=(R0 [.str s]).bind λ t=>bif !decide (aM t=0) then some (AV.tup [.s (.pl (.agg (.ints .u64 [0,0,0,0,0,0,0,0]) 8)),.s (.pl (.int .i64 (aM t)))]) else (R1 [.agg (.ints .u64 (aG t)) 8]).bind λ t=>some (AV.tup [.s (.pl (.agg (.ints .u64 (aN t)) 8)),.s (.pl (.int .i64 0))]):=by kernel_rfl
end
section
variable (T0:Type) (R0:FA T0) (aG:T0->List Int) (aM:T0->Nat)
def aOm:Cg:=⟨⟨dE [(56,⟨R0,λ t=>AV.s (dI (aG t) (aM t))⟩)],[],dR⟩,[]⟩
theorem aRU (fu:Nat):bB prog Tryz.f27 (aOm T0 R0 aG aM) fu []=(R0 [.str ([(55:UInt8),50,51,55,48,48,53,53,55,55,51,51,50,50,54,50,50,49,51,57,55,51,49,56,54,53,54,51,48,52,50,57,57,52,50,52,48,56].append [(53:UInt8),55,49,49,54,51,53,57,51,55,57,57,48,55,54,48,54,48,48,49,57,53,48,57,51,56,50,56,53,52,53,52,50,53,48,57,56,57])]).bind λ t=>some (AV.s (dI (aG t) (aM t))):=by kernel_rfl
end
section
variable (T0:Type) (R0:FA T0) (aG:T0->List Int) (aM:T0->Nat) (T1:Type) (R1:FA T1) (aN:T1->List Int) (bI:T1->Nat) (gV:T1->List Int) (gW:T1->Nat)
def aOn:Cg:=⟨⟨dE [(27,⟨R0,λ t=>AV.s (dI (aG t) (aM t))⟩),(26,⟨R1,λ t=>AV.tup [.s (dI (aN t) (bI t)),.s (dI (gV t) (gW t))]⟩)],[],dR⟩,[]⟩
theorem aRV (fu:Nat) (x:Nat):bB prog Tryz.f8 (aOn T0 R0 aG aM T1 R1 aN bI gV gW) fu [eN x]=(R0 []).bind λ t=>(R1 [.s (dI (nb x) (nb x).length),.s (dI (aG t) (aM t))]).bind λ t=>some (AV.s (dI (gV t) (gW t))):=by kernel_rfl
end
section
variable (T0:Type) (R0:FA T0) (aG:T0->List Int) (aM:T0->Nat)
def P9:Cg:=⟨⟨dE [(28,⟨R0,λ t=>AV.s (dI (aG t) (aM t))⟩)],[],dR⟩,[(4,[1,3,4],[3])]⟩
def Mb (n3:Nat) (v4:Int) (aQ:List Int) (dP:Nat) (bA:List Int):St:={ tm:=[(1,.s (.ptr 0 0 32)),(3,.s (.own 1 n3 1)),(4,.int .i64 v4)],hp:=[(0,{ ty:=23,n:=32,row:=Row.t (.ints .u8 aQ) }),(1,{ ty:=5,n:=dP,row:=Row.t (.ints .u8 bA) })],nx:=2,sz:=19 }
def TC:Code:=cM (bN [1,1,0,1,2] (bD Tryz.f9))
def TD (fu:Nat):=lP prog (P9 T0 R0 aG aM) fu [1,1,0,1,2] (bD Tryz.f9) (fT prog Tryz.f9)
abbrev aRW (fu:Nat) (n3:Nat) (v4:Int) (aQ:List Int) (dP:Nat) (bA:List Int):=eS prog (P9 T0 R0 aG aM) fu TC (TD T0 R0 aG aM fu ) fu (some (Mb n3 v4 aQ dP bA))
theorem aRX (fu:Nat) (a:List Int):bB prog Tryz.f9 (P9 T0 R0 aG aM) fu [.agg (.ints .u8 a) 32]=aRW T0 R0 aG aM fu 32 0 a 32 (List.replicate 32 0):=by kernel_rfl
def QA (n3 gB:Nat) (aQ:List Int):St:={ tm:=[(3,.s (.own 0 n3 1))],hp:=[(0,{ ty:=5,n:=gB,row:=Row.t (.ints .u8 aQ) })],nx:=1,sz:=19 }
theorem aCk {β:Type} (fu:Nat) (G:FG β) (H:FH β) (n3:Nat) (v4:Int) (aQ:List Int) (dP:Nat) (bA:List Int):fI prog (P9 T0 R0 aG aM) fu TC G H (Mb n3 v4 aQ dP bA)=bif decide (v4 < 32) then bif decide (0 <= v4 /\ v4 < 32) then bif decide (0 <= v4 /\ v4 < (n3:Int)) then G (some (Mb n3 (i64.wrap (v4+1)) aQ dP (bA.set v4.toNat (aQ.getD (0+v4.toNat) 0)))) else none else none else H (Ex.exit 0) (some (QA n3 dP bA)):=by kernel_rfl
theorem aCl (fu:Nat) (n3 gB:Nat) (aQ:List Int):TD T0 R0 aG aM fu  (Ex.exit 0) (QA n3 gB aQ)=(R0 [.str (List.map b8 aQ)]).bind λ t=>some (AV.s (dI (aG t) (aM t))):=by kernel_rfl
end
set_option maxRecDepth 4000
abbrev aRY:Cg:=aOl (Nat × Int) TU (λ t=>cQ 8 t.fst) (λ t=>t.snd) (Nat) aCM (λ t=>cQ 8 t)
theorem aI5:CfOk prog aRY.c:=gk <| aA P6 <| aA V3 <| aK
theorem Ku:CallOk prog 22 Gx:=by
 refine i7 aI5 Tryz.func22 ?_;intro args t ht;unfold Gx at ht;simp only at ht;split at ht
 ·rename_i s;obtain ⟨h1,h2⟩:=cC ht;subst h2;have hl:=cF h1;have p:=Kt (s:=s) (by omega);have hb:Nat.blt 64 s.length=false:=by
   rw [Bool.eq_false_iff]; intro h;have:=cF h;omega
  rw [hb,aD] at p;have hv:vS s < fK:=by
   have:=aOk s;refine cU this ?_;rw [show fK=256 ^ 64 by decide +kernel];exact iK (by decide) hl
  have r:=aCV (fA (vS s));rw [TR hv] at r;simp only [W8] at r;refine (aRT ..).trans ?_;rw [p,aC];show cond (!decide ((0:Int)=0)) _ _=_;rw [aE rfl,jW,aD,r,aC];rfl
 ·cases ht
theorem TE {s:Str} (h:s.length <= 64):Vo [.str s]=some (vS s%LN):=by
 show cond (Nat.ble s.length 64) _ _=_;rw [iX h,aB]
abbrev aRZ:Cg:=aOm (Nat) XK (λ t=>nb t) (λ t=>(nb t).length)
theorem aI6:CfOk prog aRZ.c:=gk <| aA NT <| aK
theorem aR0:CallOk prog 27 aRS:=by
 refine i7 aI6 Tryz.func27 ?_;intro args t ht;unfold aRS Gl at ht;simp only at ht;split at ht
 ·cases ht;refine (aRU ..).trans ?_;refine iR (b:=(some LN).bind λ (t:Nat)=>some (AV.s (SV.dat (TRow.ints i64 (nb t)) (nb t).length 1))) ?_ rfl;congr 1
 ·cases ht
abbrev aR1:Cg:=aOn (Nat) aXJ (λ t=>nb t) (λ t=>(nb t).length) (Nat × Nat) Gz (λ t=>nb t.fst) (λ t=>(nb t.fst).length) (λ t=>nb t.snd) (λ t=>(nb t.snd).length)
theorem aI7:CfOk prog aR1.c:=gk <| aA aR0 <| aA Fa <| aK
theorem aCm:CallOk prog 8 Ma:=by
 refine i7 aI7 Tryz.func8 ?_;intro args t ht;unfold Ma mJ at ht;simp only at ht;split at ht
 ·rename_i a n;obtain ⟨h1,h2⟩:=cC ht;rw [aX] at h1;obtain ⟨x,rfl,rfl,hx,ex⟩:=o8 h1.1;have h3:=dL.mp h1.2;rw [ex] at h3 h2;subst h2;have hl:(nb x).length <= 64:=dA h3;have d:=Cp (x:=x) (y:=LN) (by omega) (by decide +kernel) (by decide);simp only [eN] at d;refine (aRV ..).trans ?_;rw [show aXJ []=some LN from rfl,aC,d,aC];rfl
 ·cases ht
theorem ZE {x:Nat} (h:x < lJ):TB [eN x]=some (x%LN):=by
 have hl:(nb x).length <= 64:=dA h;simp only [TB,Ma,mJ,eN];rw [nV (by omega),fY,dL.mpr h]; rfl
abbrev aCn:Cg:=P9 (Nat) z7 (λ t=>nb t) (λ t=>(nb t).length)
theorem aI8:CfOk prog aCn.c:=gk <| aA Rv <| aK
theorem aCo (a:List Int) (hl:a.length=32) (hb:jE a=true) (m fu:Nat):∀ (d n i:Nat),i+d=32->d < n ->
  eS prog aCn fu TC (TD _ z7 (λ t=>nb t) (λ t=>(nb t).length) fu) n (some (Mb 32 (i:Int) a m (a.take i++List.replicate (32 - i) 0)))=some (eN (vB a)):=by
 intro d
 induction d with
 | zero=>
  intro n i hi hn;obtain ⟨n,rfl⟩:=aP (by omega:n ≠ 0);have e:i=32:=by omega
  subst e;rw [aF,aCk,aH (by omega),aD,aR,aCl,i0,uQ,i8,fB (by omega),Ln (by rw [iA]; omega),aC,YM hb];rfl
 | succ d ih=>
  intro n i hi hn;obtain ⟨n,rfl⟩:=aP (by omega:n ≠ 0);have h:=ih n (i+1) (by omega) (by omega);rw [aF,aCk,aE (by omega),aB,aE (by omega),aB,aE (by omega),aB,bE,bS,HI a 32 i hl (by omega),bY (by omega) (by omega)];exact h
theorem aI9:CallOk prog 9 aCi:=by
 refine aZ (fu:=λ _=>40) aI8 Tryz.func9 ?_;intro args t ht;obtain ⟨a,rfl,ha,rfl⟩:=nI (F:=λ a=>vB a) ht;obtain ⟨hl,hb⟩:=j3 ha;refine (aRX ..).trans ?_;exact aCo a hl hb 32 40 32 40 0 (by omega) (by omega)
theorem aCp {a:List Int} (h:fR a=true):aCj [lS a]=some (vB a):=by
 simp only [aCj,aCi];exact xO (λ a=>vB a) h
end
end Go.Eng
