import Derived.Test.YthiilbllojllcaaGreatZF3
namespace Go.Eng
open Go.IntKind (u64 i64 u8)
noncomputable section
open Go Go.Proofs
set_option linter.all false
section
variable (T0:Type) (R0:FA T0) (aG:T0->Int) (T1:Type) (R1:FA T1) (aM:T1->List Int) (bK:T1->Nat) (T2:Type) (R2:FA T2) (bE:T2->Int)
def UA:Cg:=⟨⟨cV [(140,⟨R0,λ t=>AV.int .i64 (aG t)⟩),(91,⟨R1,λ t=>AV.s (dI (aM t) (bK t))⟩),(47,⟨R2,λ t=>AV.int .i64 (bE t)⟩)],[],cX⟩,[(4,[0,1,5,6],[5])]⟩
def Kw (x0:List Int) (n0:Nat) (x1:List Int) (n1:Nat) (x5:List Int) (n5:Nat) (v6:Int):St:={ tm:=[(0,.s (dI x0 n0)),(1,.s (dI x1 n1)),(5,.s (dI x5 n5)),(6,.int .i64 v6)],hp:=[],nx:=0,sz:=26 }
def Xi:Code:=cN (bN [1,1,0,1,2] (bB Tryz.f135))
def Xj (fu:Nat):=mD prog (UA T0 R0 aG T1 R1 aM bK T2 R2 bE) fu [1,1,0,1,2] (bB Tryz.f135) (gI prog Tryz.f135)
abbrev bBz (fu:Nat) (x0:List Int) (n0:Nat) (x1:List Int) (n1:Nat) (x5:List Int) (n5:Nat) (v6:Int):=eV prog (UA T0 R0 aG T1 R1 aM bK T2 R2 bE) fu Xi (Xj T0 R0 aG T1 R1 aM bK T2 R2 bE fu ) fu (some (Kw x0 n0 x1 n1 x5 n5 v6))
theorem bBA (fu:Nat) (x y:Nat):aS prog Tryz.f135 (UA T0 R0 aG T1 R1 aM bK T2 R2 bE) fu [eN x,eN y]=(R0 [.s (dI (nb y) (nb y).length)]).bind λ t=>bBz T0 R0 aG T1 R1 aM bK T2 R2 bE fu (nb x) (nb x).length (nb y) (nb y).length [1] 1 (i64.wrap (aG t - 1)):=by kernel_rfl
def UB (x5:List Int) (n5:Nat):St:={ tm:=[(5,.s (dI x5 n5))],hp:=[],nx:=0,sz:=26 }
theorem aIU {β:Type} (fu:Nat) (G:FG β) (H:FH β) (x0:List Int) (n0:Nat) (x1:List Int) (n1:Nat) (x5:List Int) (n5:Nat) (v6:Int):fV prog (UA T0 R0 aG T1 R1 aM bK T2 R2 bE) fu Xi G H (Kw x0 n0 x1 n1 x5 n5 v6)=bif decide (0 <= v6) then (R1 [.s (dI x5 n5),.s (dI x5 n5)]).bind λ t=>(R2 [.s (dI x1 n1),.int .i64 v6]).bind λ bY=>bif decide (bE bY=1) then (R1 [.s (dI (aM t) (bK t)),.s (dI x0 n0)]).bind λ t=>G (some (Kw x0 n0 x1 n1 (aM t) (bK t) (i64.wrap (v6 - 1)))) else G (some (Kw x0 n0 x1 n1 (aM t) (bK t) (i64.wrap (v6 - 1)))) else H (Ex.exit 0) (some (UB x5 n5)):=by kernel_rfl
theorem aIV (fu:Nat) (x5:List Int) (n5:Nat):Xj T0 R0 aG T1 R1 aM bK T2 R2 bE fu  (Ex.exit 0) (UB x5 n5)=some (AV.s (dI x5 n5)):=by kernel_rfl
end
section
variable (T0:Type) (R0:FA T0) (aG:T0->List Int) (aO:T0->Nat) (T1:Type) (R1:FA T1) (aM:T1->List Int) (bK:T1->Nat) (T2:Type) (R2:FA T2) (bE:T2->List Int) (bU:T2->Nat)
def aWR:Cg:=⟨⟨cV [(95,⟨R0,λ t=>AV.s (dI (aG t) (aO t))⟩),(49,⟨R1,λ t=>AV.s (dI (aM t) (bK t))⟩),(135,⟨R2,λ t=>AV.s (dI (bE t) (bU t))⟩)],[],cX⟩,[]⟩
theorem bBB (fu:Nat) (x:Nat):aS prog Tryz.f94 (aWR T0 R0 aG aO T1 R1 aM bK T2 R2 bE bU) fu [eN x]=(R0 []).bind λ t=>(R1 [.s (dI (aG t) (aO t)),.s (dI [2] 1)]).bind λ t=>(R2 [.s (dI (nb x) (nb x).length),.s (dI (aM t) (bK t))]).bind λ t=>some (AV.s (dI (bE t) (bU t))):=by kernel_rfl
end
section
variable (T0:Type) (R0:FA T0) (aG:T0->List Int) (aO:T0->Nat) (T1:Type) (R1:FA T1) (aM:T1->List Int) (bK:T1->Nat) (T2:Type) (R2:FA T2) (bE:T2->List Int) (bU:T2->Nat) (fD:T2->List Int) (fJ:T2->Nat) (T3:Type) (R3:FA T3) (bS:T3->List Int) (eX:T3->Nat) (T4:Type) (R4:FA T4) (dG:T4->List Int) (jU:T4->Nat)
def aWS:Cg:=⟨⟨cV [(95,⟨R0,λ t=>AV.s (dI (aG t) (aO t))⟩),(49,⟨R1,λ t=>AV.s (dI (aM t) (bK t))⟩),(17,⟨R2,λ t=>AV.tup [.s (dI (bE t) (bU t)),.s (dI (fD t) (fJ t))]⟩),(135,⟨R3,λ t=>AV.s (dI (bS t) (eX t))⟩),(100,⟨R4,λ t=>AV.s (dI (dG t) (jU t))⟩)],[],cX⟩,[]⟩
theorem bBC (fu:Nat):aS prog Tryz.f137 (aWS T0 R0 aG aO T1 R1 aM bK T2 R2 bE bU fD fJ T3 R3 bS eX T4 R4 dG jU) fu []=(R0 []).bind λ t=>(R1 [.s (dI (aG t) (aO t)),.s (dI [1] 1)]).bind λ t=>(R2 [.s (dI (aM t) (bK t)),.s (dI [4] 1)]).bind λ t=>(R3 [.s (dI [2] 1),.s (dI (bE t) (bU t))]).bind λ t=>(R4 [.s (dI (bS t) (eX t))]).bind λ t=>some (AV.s (dI (dG t) (jU t))):=by kernel_rfl
end
set_option maxRecDepth 4000
theorem eN1:AV.s (SV.dat (TRow.ints i64 [(1:Int)]) 1 1)=eN 1:=rfl
theorem eN2:AV.s (SV.dat (TRow.ints i64 [(2:Int)]) 1 1)=eN 2:=rfl
theorem bG9 (a y i:Nat):(a ^ (y / 2 ^ (i+1))%aK)*(a ^ (y / 2 ^ (i+1))%aK)%aK=a ^ (2*(y / 2 ^ (i+1)))%aK:=by
 rw [<-lI,<-dV,Nat.two_mul]
theorem aIW (y i:Nat):y / 2 ^ i=2*(y / 2 ^ (i+1))+y / 2 ^ i%2:=by
 rw [bM,<-jE];omega
abbrev aIX:Cg:=UA (Nat) Cy (λ t=>↑t) (Nat) qV (λ t=>nb t) (λ t=>(nb t).length) (Nat) rZ (λ t=>↑t)
theorem aQF:CfOk prog aIX.c:=gk <| aA PY <| aA xN <| aA DK <| aH
theorem aQG (a:Nat) (ha:a < aK) (y:Nat) (hy:(nb y).length <= 1048576) (fu:Nat):∀ (i n:Nat),i < n->i <= 8388608 ->
  eV prog aIX fu Xi (Xj _ Cy (λ t=>(t:Int)) _ qV (λ t=>nb t) (λ t=>(nb t).length) _ rZ (λ t=>(t:Int)) fu) n
   (some (Kw (nb a) (nb a).length (nb y) (nb y).length (nb (a ^ (y / 2 ^ i)%aK)) (nb (a ^ (y / 2 ^ i)%aK)).length ((i:Int) - 1)))=some (eN (a ^ y%aK)):=by
 intro i
 induction i with
 | zero=>
  intro n hn _;obtain ⟨n,rfl⟩:=aP (by omega:n ≠ 0);rw [aF,aIU,aJ (by omega),aE,aR,aIV,iY,yA];rfl
 | succ i ih=>
  intro n hn hi;obtain ⟨n,rfl⟩:=aP (by omega:n ≠ 0);have h:=ih n (by omega) (by omega);have m1:=bQ (fG (a ^ (y / 2 ^ (i+1)))) (fG (a ^ (y / 2 ^ (i+1))));rw [bG9] at m1;have m2:=bQ (fG (a ^ (2*(y / 2 ^ (i+1))))) ha;have hb:=wR (x:=y) (i:=(i:Int)) hy (by omega) (by omega);have hbit:nM y (i:Int)=y / 2 ^ i%2:=by
   unfold nM;rw [aJ (by omega),aE,bD]
  rw [hbit] at hb;simp only [eN] at m1 m2 hb;rw [aF,aIU,show (((i+1:Nat):Int) - 1)=(i:Int) by omega,aD (by omega),aB,m1,aC,hb,aC,bW (by omega) (by omega)];have hh:=aIW y i;rcases (by omega:y / 2 ^ i%2=0 ∨ y / 2 ^ i%2=1) with c | c
  ·rw [c,aJ (by decide),aE];rw [c,fP] at hh;rw [<-hh];exact h
  ·rw [c,aD (by rfl),aB,m2,aC];have e:a ^ (2*(y / 2 ^ (i+1)))%aK*a%aK=a ^ (y / 2 ^ i)%aK:=by
    rw [Nat.mod_mul_mod,<-bM];rw [c] at hh;exact dW (λ k=>a ^ k%aK) hh.symm
   rw [e];exact h
theorem QJ:CallOk prog 135 aHr:=by
 refine aZ (fu:=λ args=>match args with | [_,.c (.s (.dat _ n _))]=>8*n+2 | _=>0) aQF Tryz.func135 ?_;intro args t ht;obtain ⟨a,y,rfl,hx,hy,hc,rfl⟩:=qF (F:=λ a e=>a ^ e%aK) (C:=λ a _=>bP a) ht;have ha:=A5 hc;refine (bBA ..).trans ?_;have hl:=M4 (x:=y) hy;simp only [eN] at hl;have hlt:=(z7 y).1;have hb:bl y <= 8*(nb y).length:=Ny (by rw [<-bC8]; exact uE y);rw [hl,aC,bW (by omega) (by omega)];have h:=aQG a ha y hy (8*(nb y).length+2) (bl y) (8*(nb y).length+2) (by omega) (by omega);rw [lG hlt,iY,show 1%aK=1 by decide] at h;exact h
theorem Kx {a y:Nat} (ha:a < aK) (hy:(nb y).length <= 1048576):TY [eN a,eN y]=some (a ^ y%aK):=by
 have l:=uF ha;simp only [TY,aHr];exact Al (λ a e=>a ^ e%aK) (λ a _=>bP a) (by omega) hy (A6 ha)
abbrev bBD:Cg:=aWR (Nat) rRP (λ t=>nb t) (λ t=>(nb t).length) (Nat) rY (λ t=>nb t) (λ t=>(nb t).length) (Nat) TY (λ t=>nb t) (λ t=>(nb t).length)
theorem aQH:CfOk prog bBD.c:=gk <| aA OX <| aA zW <| aA QJ <| aH
theorem QK:CallOk prog 94 aAm:=by
 refine fO aQH Tryz.func94 ?_;intro args t ht;unfold aAm oO at ht;simp only at ht;split at ht
 ·rename_i a n;obtain ⟨h1,h2⟩:=bO ht;rw [aW] at h1;obtain ⟨x,rfl,rfl,hx,ex⟩:=qE h1.1;have h3:=A5 h1.2;rw [ex] at h3 h2;subst h2;refine (bBB ..).trans ?_;have hs:=rO (x:=aK) (y:=2) (by rw [Yc]; omega) (by decide) (by decide);have hl:(nb (aK - 2)).length <= 1048576:=dC (dL (k:=32) (by decide +kernel)) (by decide);have hp:=Kx (a:=x) (y:=aK - 2) h3 hl;rw [<-eN2] at hs;simp only [eN] at hs hp;rw [Hp,aC,hs,aC,hp];rfl
 ·cases ht
theorem UC {x:Nat} (h:x < aK):N3 [eN x]=some (x ^ (aK - 2)%aK):=by
 have l:=uF h;simp only [N3,aAm,oO,eN];rw [oX (by omega),gN,A6 h]; rfl
abbrev bBE:Cg:=aWS (Nat) rRP (λ t=>nb t) (λ t=>(nb t).length) (Nat) rY (λ t=>nb t) (λ t=>(nb t).length) (Nat × Nat) JW (λ t=>nb t.fst) (λ t=>(nb t.fst).length) (λ t=>nb t.snd) (λ t=>(nb t.snd).length) (Nat) TY (λ t=>nb t) (λ t=>(nb t).length) (Nat) FM (λ t=>nb t) (λ t=>(nb t).length)
theorem aQI:CfOk prog bBE.c:=gk <| aA OX <| aA zW <| aA H8 <| aA QJ <| aA Jc <| aH
theorem bBF (q:Nat) (hq:(aK - 1) / 4=q):q9 (2 ^ q%aK)=iN:=by
 rw [<-N6 2 aK 255 q (by rw [<-hq]; decide +kernel),<-hq];decide +kernel
theorem eN4:AV.s (SV.dat (TRow.ints i64 [(4:Int)]) 1 1)=eN 4:=rfl
theorem aIY:CallOk prog 137 sRI:=by
 refine fO aQI Tryz.func137 ?_;intro args t ht;unfold sRI at ht;simp only at ht;split at ht
 ·cases ht;refine (bBC ..).trans ?_;have hs:=rO (x:=aK) (y:=1) (by rw [Yc]; omega) (by decide) (by decide);have hd:=Eo (x:=aK - 1) (y:=4) (dC (dL (k:=32) (by decide +kernel)) (by decide)) (by decide) (by decide);generalize hq:(aK - 1) / 4=q at hd;have hl:(nb q).length <= 1048576:=dC (dL (k:=32) (by rw [<-hq]; decide +kernel)) (by decide);have hp:=Kx (a:=2) (y:=q) (by decide) hl;have ha:=B5 (fG (2 ^ q));rw [bBF q hq] at ha;rw [<-eN1] at hs;rw [<-eN4] at hd;rw [<-eN2] at hp;generalize 2 ^ q%aK=z at *;generalize aK - 1=w at *;simp only [eN] at hs hd hp ha;rw [Hp,aC,hs,aC,hd,aC,hp,aC,ha];rfl
 ·cases ht
end
end Go.Eng
