import Derived.Test.YthiilbllojllcaaGreatZS2
namespace Go.Eng
open Go.IntKind (u64 i64 u8)
noncomputable section
open Go Go.Proofs
set_option linter.all false
def hS (s:Str):Str:=(up (Gh s)).map b8
def sY (s:Str) (x:Nat):Str:=s.map λ c=>b8 ((c.toNat ^^^ x:Nat):Int)
def aE2 (key:Str):Str:=if 128 < key.length then hS key else key
def pX (key:Str):Str:=aE2 key++List.replicate (128 - (aE2 key).length) 0
def VE (k t:Str):Str:=hS (sY k 92++hS (sY k 54++t))
def A7 (key t:Str):Str:=VE (pX key) t
def bDL (i:Nat):Str:=[b8 ((i / 16777216%256:Nat):Int),b8 ((i / 65536%256:Nat):Int),b8 ((i / 256%256:Nat):Int),b8 ((i%256:Nat):Int)]
def VF (ss:List Str) (n:Nat):Bool:=Nat.beq n ss.length && Nat.ble ss.length 1048000 && Nat.ble (Lib.join ss []).length 1099511620000
def gJ (s:Str):Bool:=Nat.ble s.length 1099511620000
def aBG:Summ where
 T:=Str
 run:=λ
  | [.c (.s (.pl (.str s))),.c (.s (.pl (.int .u8 x)))]=>cond (gJ s && decide (0 <= x /\ x < 256)) (some (sY s x.toNat)) none
  | _=>none
 enc:=λ t=>.str t
def VG:FA Str:=aBG.run
def Q1:Summ where
 T:=Str
 run:=λ
  | [.c (.s (.pl (.str s)))]=>cond (gJ s) (some (pX s)) none
  | _=>none
 enc:=λ t=>.str t
def Yj:FA Str:=Q1.run
def Q2:Summ where
 T:=Str
 run:=λ
  | [.c (.s (.pl (.str k))),.c (.s (.dat (.strs ss) n 1))]=>cond (Nat.beq k.length 128 && VF ss n) (some (VE k (Lib.join ss []))) none
  | _=>none
 enc:=λ t=>.str t
def EY:FA Str:=Q2.run
def aBH:Summ where
 T:=Str
 run:=λ
  | [.c (.s (.pl (.str s)))]=>cond (gJ s) (some (pX s)) none
  | _=>none
 enc:=λ t=>.s (.clo 125 [.str t] [])
def VH:FA Str:=aBH.run
def OZ:Summ where
 T:=Str
 run:=λ
  | [.c (.s (.pl (.str k))),.c (.s (.dat (.strs ss) n 1))]=>cond (gJ k && VF ss n) (some (A7 k (Lib.join ss []))) none
  | _=>none
 enc:=λ t=>.str t
def GD:FA Str:=OZ.run
def Ll:Cg:=⟨⟨cV [],[8],cX⟩,[(4,[1,5,10,11],[5])]⟩
def Jd (v1:Int) (n5:Nat) (gR fN:Int) (fL:Nat) (aQ:List Int):St:={ tm:=[(1,.int .u8 v1),(5,.s (.own 0 n5 1)),(10,.int .i64 gR),(11,.int .i64 fN)],hp:=[(0,{ ty:=5,n:=fL,row:=Row.t (.ints .u8 aQ) })],nx:=1,sz:=24 }
def Q3:Code:=cN (bN [1,1,0,1,2] (bB Tryz.f163))
def Q4 (fu:Nat):=mD prog Ll fu [1,1,0,1,2] (bB Tryz.f163) (gI prog Tryz.f163)
abbrev aR6 (fu:Nat) (v1:Int) (n5:Nat) (gR fN:Int) (fL:Nat) (aQ:List Int):=eV prog Ll fu Q3 (Q4 fu ) fu (some (Jd v1 n5 gR fN fL aQ))
theorem aR7 (fu:Nat) (s:Str) (x:Int):aS prog Tryz.f163 Ll fu [.str s,.int .u8 x]=bif decide (List.length s <= 1099511627776) then aR6 fu x (List.length s) (↑(List.length s):Int) 0 (List.length s) (List.map sE s) else none:=by kernel_rfl
def Oa (n5 fL:Nat) (aQ:List Int):St:={ tm:=[(5,.s (.own 0 n5 1))],hp:=[(0,{ ty:=5,n:=fL,row:=Row.t (.ints .u8 aQ) })],nx:=1,sz:=24 }
theorem aBI {β:Type} (fu:Nat) (G:FG β) (H:FH β) (v1:Int) (n5:Nat) (gR fN:Int) (fL:Nat) (aQ:List Int):fV prog Ll fu Q3 G H (Jd v1 n5 gR fN fL aQ)=bif decide (fN < gR) then bif decide (0 <= fN /\ fN < (n5:Int)) then bif decide (0 <= fN /\ fN < (n5:Int)) then G (some (Jd v1 n5 gR (i64.wrap (fN+1)) fL (aQ.set fN.toNat (gG .u8 (aQ.getD fN.toNat 0) v1)))) else none else none else H (Ex.exit 0) (some (Oa n5 fL aQ)):=by kernel_rfl
theorem aE3 (fu:Nat) (n5 fL:Nat) (aQ:List Int):Q4 fu  (Ex.exit 0) (Oa n5 fL aQ)=some (AV.str (List.map b8 aQ)):=by kernel_rfl
def aKE:Cg:=⟨⟨cV [],[],cX⟩,[]⟩
theorem aR8 (fu:Nat) (s:List Int):aS prog Tryz.f162 aKE fu [.agg (.ints .u8 s) 64]=some (AV.str (List.map b8 (List.take 64 (List.drop 0 s)))):=by kernel_rfl
section
variable (T0:Type) (R0:FA T0) (aG:T0->List Int) (T1:Type) (R1:FA T1) (aM:T1->List UInt8) (T2:Type) (R2:FA T2) (bE:T2->List UInt8)
def aKF:Cg:=⟨⟨cV [(78,⟨R0,λ t=>AV.agg (.ints .u8 (aG t)) 64⟩),(162,⟨R1,λ t=>AV.str (aM t)⟩),(119,⟨R2,λ t=>AV.str (bE t)⟩)],[],cX⟩,[]⟩
theorem aR9 (fu:Nat) (s:Str):aS prog Tryz.f124 (aKF T0 R0 aG T1 R1 aM T2 R2 bE) fu [.str s]=bif decide (128 < (↑(List.length s):Int)) then (R0 [.s (.dat (.strs [s]) 1 1)]).bind λ t=>(R1 [.agg (.ints .u8 (aG t)) 64]).bind λ t=>(R2 [.str [(0:UInt8)],.int .i64 (i64.wrap (128 - (↑(aM t).length:Int)))]).bind λ bY=>bif decide ((aM t).length+(bE bY).length <= 9223372036854775807) then some (AV.str (aM t++bE bY)) else none else (R2 [.str [(0:UInt8)],.int .i64 (i64.wrap (128 - (↑(List.length s):Int)))]).bind λ t=>bif decide (List.length s+(bE t).length <= 9223372036854775807) then some (AV.str (s++bE t)) else none:=by kernel_rfl
end
section
variable (T0:Type) (R0:FA T0) (aG:T0->List UInt8) (T1:Type) (R1:FA T1) (aM:T1->List Int) (T2:Type) (R2:FA T2) (bE:T2->List UInt8)
def aKG:Cg:=⟨⟨cV [(163,⟨R0,λ t=>AV.str (aG t)⟩),(78,⟨R1,λ t=>AV.agg (.ints .u8 (aM t)) 64⟩),(162,⟨R2,λ t=>AV.str (bE t)⟩)],[8],cX⟩,[]⟩
theorem aSa (fu:Nat) (s:Str) (ss:List Str) (n:Nat):aS prog Tryz.f125 (aKG T0 R0 aG T1 R1 aM T2 R2 bE) fu [.str s,.s (.dat (.strs ss) n 1)]=(R0 [.str s,.int .u8 54]).bind λ t=>bif decide (1+n <= 1099511627776) then (R1 [.s (.dat (.strs ([aG t]++ss)) (1+n) 1)]).bind λ t=>(R0 [.str s,.int .u8 92]).bind λ bY=>(R2 [.agg (.ints .u8 (aM t)) 64]).bind λ t=>(R1 [.s (.dat (.strs ([aG bY]++[bE t])) 2 1)]).bind λ t=>(R2 [.agg (.ints .u8 (aM t)) 64]).bind λ t=>some (AV.str (bE t)) else none:=by kernel_rfl
end
section
variable (T0:Type) (R0:FA T0) (aG:T0->List UInt8) (T1:Type) (R1:FA T1) (aM:T1->List UInt8)
def aKH:Cg:=⟨⟨cV [(124,⟨R0,λ t=>AV.str (aG t)⟩),(125,⟨R1,λ t=>AV.str (aM t)⟩)],[],cX⟩,[]⟩
theorem aSb (fu:Nat) (s:Str):aS prog Tryz.f80 (aKH T0 R0 aG T1 R1 aM) fu [.str s]=(R0 [.str s]).bind λ t=>some (AV.s (.clo 125 [.str (aG t)] [])):=by kernel_rfl
end
section
variable (T0:Type) (R0:FA T0) (aG:T0->List UInt8) (T1:Type) (R1:FA T1) (aM:T1->List UInt8)
def aKI:Cg:=⟨⟨cV [(80,⟨R0,λ t=>AV.s (.clo 125 [.str (aG t)] [])⟩),(125,⟨R1,λ t=>AV.str (aM t)⟩)],[],cX⟩,[]⟩
theorem aSc (fu:Nat) (s:Str) (ss:List Str) (n:Nat):aS prog Tryz.f43 (aKI T0 R0 aG T1 R1 aM) fu [.str s,.s (.dat (.strs ss) n 1)]=(R0 [.str s]).bind λ t=>(R1 [.str (aG t),.s (.dat (.strs ss) n 1)]).bind λ t=>some (AV.str (aM t)):=by kernel_rfl
end
section
variable (T0:Type) (R0:FA T0) (aG:T0->List UInt8) (T1:Type) (R1:FA T1) (T2:Type) (R2:FA T2) (bE:T2->List UInt8) (T3:Type) (R3:FA T3) (bS:T3->Bool)
def aXC:Cg:=⟨⟨cV [(43,⟨R0,λ t=>AV.str (aG t)⟩),(58,⟨R1,λ t=>AV.bool (true)⟩),(60,⟨R2,λ t=>AV.str (bE t)⟩),(59,⟨R3,λ t=>AV.bool (bS t)⟩)],[],cX⟩,[]⟩
theorem bDM (fu:Nat):aS prog Tryz.f23 (aXC T0 R0 aG T1 R1 T2 R2 bE T3 R3 bS) fu []=(R0 [.str [(74:UInt8),101,102,101],.s (.dat (.strs ([[(119:UInt8),104,97,116,32,100,111,32,121,97,32,119,97,110,116,32]]++[[(102:UInt8),111,114,32,110,111,116,104,105,110,103,63]])) 2 1)]).bind λ t=>(R1 []).bind λ bY=>(R2 [.str (aG t)]).bind λ cJ=>(R3 [.str (bE cJ),.str [(49:UInt8),54,52,98,55,97,55,98]]).bind λ fF=>bif bS fF then some (AV.bool (decide ((↑(aG t).length:Int)=64))) else some (AV.bool false):=by kernel_rfl
end
abbrev aBJ:Cg:=Ll 
theorem aKJ:CfOk prog aBJ.c:=gk <| aH
abbrev aSd:Cg:=aKE 
theorem aKK:CfOk prog aSd.c:=gk <| aH
theorem bDN (x y:Nat) (hx:x < 256) (hy:y < 256):gG .u8 (x:Int) (y:Int)=((x ^^^ y:Nat):Int):=by
 have:∀ x y:Fin 256,gG .u8 (x.1:Int) (y.1:Int)=((x.1 ^^^ y.1:Nat):Int):=by
  intro x y;unfold gG;have e:(BitVec.ofInt (IntKind.bits .u8) (x.1:Int) ^^^ BitVec.ofInt (IntKind.bits .u8) (y.1:Int)).toNat=x.1 ^^^ y.1:=by
   show (BitVec.ofInt 8 (x.1:Int) ^^^ BitVec.ofInt 8 (y.1:Int)).toNat=x.1 ^^^ y.1;rw [BitVec.toNat_xor,aDM,aDM,Wm,Wm,aY x.2,aY y.2]
  rw [e,qD,aY];exact TH (n:=8) x.2 y.2
 exact this ⟨x,hx⟩ ⟨y,hy⟩
theorem aSe {α β:Type} (s:List α) (f g:α->β) (i:Nat) (h:i < s.length) (d:β) (e:α):((s.take i).map f++(s.drop i).map g).getD i d=g (s.getD i e):=by
 rw [jM,Ap (by simp; omega),eZ,dH,G9 (by omega),iL,NB h,mR,List.getElem?_cons_zero,jM,jZ h]; rfl
theorem bDO {α β:Type} (s:List α) (f g:α->β) (i:Nat) (h:i < s.length) (e:α):((s.take i).map f++(s.drop i).map g).set i (f (s.getD i e))=(s.take (i+1)).map f++(s.drop (i+1)).map g:=by
 have e0:s.getD i e=s[i]:=by rw [jM,jZ h]; rfl
 rw [Aq _ _ (by simp; omega),eZ,dH,G9 (by omega),iL,NB h,mR,u5,e0,x9,jZ h,rP,iO]; rfl
def xf (x:Nat) (c:UInt8):Int:=((c.toNat ^^^ x:Nat):Int)
theorem aSf (s:Str) (hl:s.length <= 1099511627776) (x:Nat) (hx:x < 256) (m fu:Nat):∀ (d n i:Nat),i+d=s.length->d < n ->
  eV prog aBJ fu Q3 (Q4 fu) n (some (Jd (x:Int) s.length (s.length:Int) (i:Int) m ((s.take i).map (xf x)++(s.drop i).map sE)))=some (.str (sY s x)):=by
 intro d
 induction d with
 | zero=>
  intro n i hi hn;obtain ⟨n,rfl⟩:=aP (by omega:n ≠ 0);have e:i=s.length:=by omega
  rw [aF,aBI,aJ (by omega),aE,aR,aE3,e,Ar,S9,List.map_nil,jC,NF]; rfl
 | succ d ih=>
  intro n i hi hn;obtain ⟨n,rfl⟩:=aP (by omega:n ≠ 0);have h:=ih n (i+1) (by omega) (by omega);have hc:=(s.getD i 0).toNat_lt;rw [aF,aBI,aD (by omega),aB,aD (by omega),aB,aB,bD,aSe s _ _ i (by omega) _ 0];have hx':gG .u8 (sE (s.getD i 0)) (x:Int)=xf x (s.getD i 0):=bDN _ _ hc hx;rw [hx',bDO s (xf x) sE i (by omega) 0,bW (by omega) (by omega)];exact h
theorem aSg:CallOk prog 163 aBG:=by
 refine aZ (fu:=λ args=>match args with | .c (.s (.pl (.str s))) :: _=>s.length+1 | _=>0) aKJ Tryz.func163 ?_;intro args t ht;unfold aBG at ht;simp only at ht;split at ht
 ·rename_i s x;obtain ⟨h1,h2⟩:=bO ht;subst h2;simp only [aW,bJ,gJ,dJ] at h1;obtain ⟨x,rfl⟩:=bZ h1.2.1;refine (aR7 ..).trans ?_;rw [aD (by omega),aB,bD];have:=aSf s (by omega) x (by omega) s.length (s.length+1) s.length (s.length+1) 0 (by omega) (lH _);exact this
 ·cases ht
theorem VI:CallOk prog 162 VS:=by
 refine fO aKK Tryz.func162 ?_;intro args t ht;unfold VS at ht;simp only at ht;split at ht
 ·rename_i s;obtain ⟨h1,h2⟩:=bO ht;subst h2;have h1:=aT h1;refine (aR8 ..).trans ?_;rw [gL,d9 (by omega)]; rfl
 ·cases ht
theorem pY (s:Str):(hS s).length=64:=by rw [hS,eZ,Ad,wK]
theorem aKL (key:Str):(aE2 key).length <= 128:=by
 unfold aE2;split
 ·rw [pY]; decide
 ·omega
theorem Lm (key:Str):(pX key).length=128:=by
 have:=aKL key;rw [pX,cD,IE]; omega
section
variable (T0:Type) (R0:FA T0)
def aXD:Cg:=⟨⟨cV [(103,⟨R0,λ t=>AV.bool (true)⟩)],[],cX⟩,[]⟩
theorem bDP (fu:Nat):aS prog Tryz.f58 (aXD T0 R0) fu []=(R0 []).bind λ t=>some (AV.bool true):=by kernel_rfl
end
abbrev bDQ:Cg:=aXD (PUnit) gM
theorem aSh:CfOk prog bDQ.c:=gk <| aA Yu <| aH
theorem Ln:CallOk prog 58 gE:=by
 refine fO aSh Tryz.func58 ?_;intro args t ht;unfold gE at ht;simp only at ht;split at ht
 ·cases ht;refine (bDP ..).trans ?_;rw [show gM []=some () from rfl,aC]; rfl
 ·cases ht
abbrev aSi:Cg:=aKF (List Nat) SI (λ t=>up t) (List UInt8) aBU (λ t=>t) (List UInt8) oB (λ t=>t)
theorem aKM:CfOk prog aSi.c:=gk <| aA EZ <| aA VI <| aA HU <| aH
theorem VJ {s:Str} {x:Nat} (h:s.length <= 1099511620000) (hx:x < 256):VG [.str s,.int .u8 (x:Int)]=some (sY s x):=by
 have e:(gJ s && decide (0 <= (x:Int) /\ (x:Int) < 256))=true:=by rw [aD (by omega),gJ,lY h]; rfl
 simp only [VG,aBG,e,aB,bD]
theorem zM (ss:List Str):Lib.join ss []=ss.flatten:=by
 cases ss with
 | nil=>rfl
 | cons x r=>
  rw [Lib.join_cons,Lib.joinTail];simp
theorem Lo (a:Str) (ss:List Str):Lib.join ([a]++ss) []=a++Lib.join ss []:=by rw [zM,zM]; rfl
theorem zN {ss:List Str} {n:Nat} (h1:n=ss.length) (h2:ss.length <= 1048576) (h3:(Lib.join ss []).length <= 1099511627776):nZ ss n=true:=by
 subst h1;rw [nZ,oH,lY h2,lY h3]; rfl
theorem aKN {ss:List Str} {n:Nat} (h:VF ss n=true):n=ss.length /\ ss.length <= 1048000 /\ (Lib.join ss []).length <= 1099511620000:=by
 simp only [VF,aW,dJ] at h;exact ⟨aT h.1.1,h.1.2,h.2⟩
theorem Ob (s:Str) (x:Nat):(sY s x).length=s.length:=eZ _
theorem aKO:CallOk prog 124 Q1:=by
 refine fO aKM Tryz.func124 ?_;intro args t ht;unfold Q1 at ht;simp only at ht;split at ht
 ·rename_i s;obtain ⟨h1,h2⟩:=bO ht;subst h2;rw [gJ,dJ] at h1;refine (aR9 ..).trans ?_;by_cases h:128 < s.length
  ·have e:aE2 s=hS s:=aX h;have l:=pY s;have w:i64.wrap ((128:Int) - ((hS s).length:Int))=((128 - (hS s).length:Nat):Int):=by rw [bW (by omega) (by omega)]; omega
   rw [aD (by omega),aB,xP (ss:=[s]) (n:=1) (zN rfl (by simp) (by rw [Lib.join_one]; omega)),aC,Lib.join_one,GL (by rw [Ad,wK]),aC];show (oB [AV.str [0],AV.int .i64 (i64.wrap ((128:Int) - ((hS s).length:Int)))]).bind (λ t=>bif decide ((hS s).length+t.length <= _) then some (AV.str (hS s++t)) else none)=_;rw [w,AS _ _ (by omega) (dC (show 1*(128 - (hS s).length) <= 128 by omega) (by decide)),aC,Jk,aD (by omega),aB,GJ];show some (AV.str (hS s++List.replicate (128 - (hS s).length) 0))=some (.str (pX s));rw [pX,e]
  ·have e:aE2 s=s:=aV h;have w:i64.wrap ((128:Int) - (s.length:Int))=((128 - s.length:Nat):Int):=by rw [bW (by omega) (by omega)]; omega
   rw [aJ (by omega),aE,w,AS _ _ (by omega) (dC (show 1*(128 - s.length) <= 128 by omega) (by decide)),aC,Jk,aD (by omega),aB,GJ];show _=some (AV.str (pX s));rw [pX,e]
 ·cases ht
abbrev aSj:Cg:=aKG (List UInt8) VG (λ t=>t) (List Nat) SI (λ t=>up t) (List UInt8) aBU (λ t=>t)
theorem aKP:CfOk prog aSj.c:=gk <| aA aSg <| aA EZ <| aA VI <| aH
theorem Lp:CallOk prog 125 Q2:=by
 refine fO aKP Tryz.func125 ?_;intro args t ht;unfold Q2 at ht;simp only at ht;split at ht
 ·rename_i k ss n;obtain ⟨h1,h2⟩:=bO ht;subst h2;rw [aW] at h1;have hk:=aT h1.1;obtain ⟨e,l1,l2⟩:=aKN h1.2;have m1:=Ob k 54;have m2:=Ob k 92;have j1:=Lo (sY k 54) ss;refine (aSa ..).trans ?_;have r1:VG [.str k,.int .u8 54]=some (sY k 54):=VJ (x:=54) (by omega) (by decide);have r2:VG [.str k,.int .u8 92]=some (sY k 92):=VJ (x:=92) (by omega) (by decide);rw [r1,aC,aD (by omega),aB,xP (ss:=[sY k 54]++ss) (n:=1+n) (zN (by rw [cD,wS,e]) (by rw [cD,wS]; omega) (by rw [j1,cD]; omega)),aC,r2,aC,j1,
   GL (by rw [Ad,wK]),aC]
  show (SI [AV.s (.dat (.strs ([sY k 92]++[hS (sY k 54++Lib.join ss [])])) 2 1)]).bind _=_;have j2:=Lo (sY k 92) [hS (sY k 54++Lib.join ss [])];rw [Lib.join_one] at j2;have l3:=pY (sY k 54++Lib.join ss []);rw [xP (ss:=[sY k 92]++[hS (sY k 54++Lib.join ss [])]) (n:=2) (zN rfl (by simp) (by rw [j2,cD]; omega)),aC,j2,GL (by rw [Ad,wK]),aC]; rfl
 ·cases ht
theorem aE4 {s:Str} (h:gJ s=true):Yj [.str s]=some (pX s):=by
 simp only [Yj,Q1,h,aB]
theorem Oc {k:Str} {ss:List Str} {n:Nat} (hk:k.length=128) (h:VF ss n=true):EY [.str k,.s (.dat (.strs ss) n 1)]=some (VE k (Lib.join ss [])):=by
 have e:(Nat.beq k.length 128 && VF ss n)=true:=by rw [hk,h]; rfl
 simp only [EY,Q2,e,aB]
theorem VK {s:Str} (h:gJ s=true):VH [.str s]=some (pX s):=by
 simp only [VH,aBH,h,aB]
theorem B8 {k:Str} {ss:List Str} {n:Nat} (hk:gJ k=true) (h:VF ss n=true):GD [.str k,.s (.dat (.strs ss) n 1)]=some (A7 k (Lib.join ss [])):=by
 have e:(gJ k && VF ss n)=true:=by rw [hk,h]; rfl
 simp only [GD,OZ,e,aB]
abbrev aSk:Cg:=aKH (List UInt8) Yj (λ t=>t) (List UInt8) EY (λ t=>t)
theorem aKQ:CfOk prog aSk.c:=gk <| aA aKO <| aA Lp <| aH
theorem aBK:CallOk prog 80 aBH:=by
 refine fO aKQ Tryz.func80 ?_;intro args t ht;unfold aBH at ht;simp only at ht;split at ht
 ·rename_i s;obtain ⟨h1,h2⟩:=bO ht;subst h2;refine (aSb ..).trans ?_;rw [aE4 h1,aC]; rfl
 ·cases ht
abbrev aSl:Cg:=aKI (List UInt8) VH (λ t=>t) (List UInt8) EY (λ t=>t)
theorem aKR:CfOk prog aSl.c:=gk <| aA aBK <| aA Lp <| aH
theorem Q5:CallOk prog 43 OZ:=by
 refine fO aKR Tryz.func43 ?_;intro args t ht;unfold OZ at ht;simp only at ht;split at ht
 ·rename_i k ss n;obtain ⟨h1,h2⟩:=bO ht;subst h2;rw [aW] at h1;refine (aSc ..).trans ?_;rw [VK h1.1,aC,Oc (Lm k) h1.2,aC]; rfl
 ·cases ht
theorem Od (k t:Str):(VE k t).length=64:=pY _
theorem VL {s:Str} (h:s.length <= 1099511620000):gJ s=true:=lY h
theorem B9 {s:Str} (h:gJ s=true):s.length <= 1099511620000:=dA h
abbrev bDR:Cg:=aXC (List UInt8) GD (λ t=>t) (PUnit) gM (List UInt8) aCd (λ t=>t) (Bool) EJ (λ t=>t)
theorem aSm:CfOk prog bDR.c:=gk <| aA Q5 <| aA Ln <| aA aFj <| aA QA <| aH
theorem Yk:CallOk prog 23 gE:=by
 refine fO aSm Tryz.func23 ?_;intro args t ht;unfold gE at ht;simp only at ht;split at ht
 ·cases ht;refine (bDM ..).trans ?_;have hl:(A7 [74,101,102,101] ([119,104,97,116,32,100,111,32,121,97,32,119,97,110,116,32]++[102,111,114,32,110,111,116,104,105,110,103,63])).length=64:=Od _ _;have hp:Lib.hasPrefix (tT (A7 [74,101,102,101] ([119,104,97,116,32,100,111,32,121,97,32,119,97,110,116,32]++[102,111,114,32,110,111,116,104,105,110,103,63]))) [49,54,52,98,55,97,55,98]=true:=by decide +kernel
  have j:=Lo [119,104,97,116,32,100,111,32,121,97,32,119,97,110,116,32] [[102,111,114,32,110,111,116,104,105,110,103,63]];rw [Lib.join_one] at j;rw [B8 (by decide) (by decide),aC,show gM []=some () from rfl,aC,j];generalize A7 [74,101,102,101] ([119,104,97,116,32,100,111,32,121,97,32,119,97,110,116,32]++[102,111,114,32,110,111,116,104,105,110,103,63])=x at hl hp ⊢;rw [Yv (by omega),aC];show (EJ [AV.str (tT x),AV.str [49,54,52,98,55,97,55,98]]).bind _=_;rw [show EJ [AV.str (tT x),AV.str [49,54,52,98,55,97,55,98]]=some (Lib.hasPrefix (tT x) [49,54,52,98,55,97,55,98]) from rfl,aC,hp,aB,aD (by omega)]; rfl
 ·cases ht
end
end Go.Eng
