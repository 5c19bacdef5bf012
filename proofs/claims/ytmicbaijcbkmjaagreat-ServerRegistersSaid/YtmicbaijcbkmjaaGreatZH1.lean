import Derived.Test.YtmicbaijcbkmjaaGreatZS2
namespace Go.Eng
open Go.IntKind (u64 i64 u8)
noncomputable section
open Go Go.Proofs
set_option linter.all false
def hS (s:Str):Str:=(up (OL s)).map b8
def n8 (s:Str) (x:Nat):Str:=s.map λ c=>b8 ((c.toNat ^^^ x:Nat):Int)
def aNC (key:Str):Str:=if 128 < key.length then hS key else key
def Fl (key:Str):Str:=aNC key++List.replicate (128 - (aNC key).length) 0
def aHL (k t:Str):Str:=hS (n8 k 92++hS (n8 k 54++t))
def aQc (key t:Str):Str:=aHL (Fl key) t
def aWU (i:Nat):Str:=[b8 ((i / 16777216%256:Nat):Int),b8 ((i / 65536%256:Nat):Int),b8 ((i / 256%256:Nat):Int),b8 ((i%256:Nat):Int)]
def okJ (ss:List Str) (n:Nat):Bool:=Nat.beq n ss.length && Nat.ble ss.length 1048000 && Nat.ble (Lib.join ss []).length 1099511620000
def Lz (s:Str):Bool:=Nat.ble s.length 1099511620000
def Ya:Summ where
 T:=Str
 run:=λ
  | [.c (.s (.pl (.str s))),.c (.s (.pl (.int .u8 x)))]=>cond (Lz s && decide (0 <= x /\ x < 256)) (some (n8 s x.toNat)) none
  | _=>none
 enc:=λ t=>.str t
def Sc:FA Str:=Ya.run
def VG:Summ where
 T:=Str
 run:=λ
  | [.c (.s (.pl (.str s)))]=>cond (Lz s) (some (Fl s)) none
  | _=>none
 enc:=λ t=>.str t
def PA:Summ where
 T:=Str
 run:=λ
  | [.c (.s (.pl (.str k))),.c (.s (.dat (.strs ss) n 1))]=>cond (Nat.beq k.length 128 && okJ ss n) (some (aHL k (Lib.join ss []))) none
  | _=>none
 enc:=λ t=>.str t
def J4:Cg:=⟨⟨dE [],[8],dR⟩,[(4,[1,5,10,11],[5])]⟩
def Hi (v1:Int) (n5:Nat) (fP gF:Int) (gB:Nat) (aQ:List Int):St:={ tm:=[(1,.int .u8 v1),(5,.s (.own 0 n5 1)),(10,.int .i64 fP),(11,.int .i64 gF)],hp:=[(0,{ ty:=5,n:=gB,row:=Row.t (.ints .u8 aQ) })],nx:=1,sz:=24 }
def PB:Code:=cM (bN [1,1,0,1,2] (bD Tryz.f184))
def PC (fu:Nat):=lP prog J4 fu [1,1,0,1,2] (bD Tryz.f184) (fT prog Tryz.f184)
abbrev aND (fu:Nat) (v1:Int) (n5:Nat) (fP gF:Int) (gB:Nat) (aQ:List Int):=eS prog J4 fu PB (PC fu ) fu (some (Hi v1 n5 fP gF gB aQ))
theorem aNE (fu:Nat) (s:Str) (x:Int):bB prog Tryz.f184 J4 fu [.str s,.int .u8 x]=bif decide (List.length s <= 1099511627776) then aND fu x (List.length s) (↑(List.length s):Int) 0 (List.length s) (List.map lO s) else none:=by kernel_rfl
def L0 (n5 gB:Nat) (aQ:List Int):St:={ tm:=[(5,.s (.own 0 n5 1))],hp:=[(0,{ ty:=5,n:=gB,row:=Row.t (.ints .u8 aQ) })],nx:=1,sz:=24 }
theorem Yb {β:Type} (fu:Nat) (G:FG β) (H:FH β) (v1:Int) (n5:Nat) (fP gF:Int) (gB:Nat) (aQ:List Int):fI prog J4 fu PB G H (Hi v1 n5 fP gF gB aQ)=bif decide (gF < fP) then bif decide (0 <= gF /\ gF < (n5:Int)) then bif decide (0 <= gF /\ gF < (n5:Int)) then G (some (Hi v1 n5 fP (i64.wrap (gF+1)) gB (aQ.set gF.toNat (fL .u8 (aQ.getD gF.toNat 0) v1)))) else none else none else H (Ex.exit 0) (some (L0 n5 gB aQ)):=by kernel_rfl
theorem aAW (fu:Nat) (n5 gB:Nat) (aQ:List Int):PC fu  (Ex.exit 0) (L0 n5 gB aQ)=some (AV.str (List.map b8 aQ)):=by kernel_rfl
def aHM:Cg:=⟨⟨dE [],[],dR⟩,[]⟩
theorem aNF (fu:Nat) (s:List Int):bB prog Tryz.f183 aHM fu [.agg (.ints .u8 s) 64]=some (AV.str (List.map b8 (List.take 64 (List.drop 0 s)))):=by kernel_rfl
section
variable (T0:Type) (R0:FA T0) (aG:T0->List Int) (T1:Type) (R1:FA T1) (aN:T1->List UInt8) (T2:Type) (R2:FA T2) (bC:T2->List UInt8)
def aHN:Cg:=⟨⟨dE [(179,⟨R0,λ t=>AV.agg (.ints .u8 (aG t)) 64⟩),(183,⟨R1,λ t=>AV.str (aN t)⟩),(150,⟨R2,λ t=>AV.str (bC t)⟩)],[],dR⟩,[]⟩
theorem aNG (fu:Nat) (s:Str):bB prog Tryz.f153 (aHN T0 R0 aG T1 R1 aN T2 R2 bC) fu [.str s]=bif decide (128 < (↑(List.length s):Int)) then (R0 [.s (.dat (.strs [s]) 1 1)]).bind λ t=>(R1 [.agg (.ints .u8 (aG t)) 64]).bind λ t=>(R2 [.str [(0:UInt8)],.int .i64 (i64.wrap (128 - (↑(aN t).length:Int)))]).bind λ dH=>bif decide ((aN t).length+(bC dH).length <= 9223372036854775807) then some (AV.str (aN t++bC dH)) else none else (R2 [.str [(0:UInt8)],.int .i64 (i64.wrap (128 - (↑(List.length s):Int)))]).bind λ t=>bif decide (List.length s+(bC t).length <= 9223372036854775807) then some (AV.str (s++bC t)) else none:=by kernel_rfl
end
section
variable (T0:Type) (R0:FA T0) (aG:T0->List UInt8) (T1:Type) (R1:FA T1) (aN:T1->List Int) (T2:Type) (R2:FA T2) (bC:T2->List UInt8)
def aHO:Cg:=⟨⟨dE [(184,⟨R0,λ t=>AV.str (aG t)⟩),(179,⟨R1,λ t=>AV.agg (.ints .u8 (aN t)) 64⟩),(183,⟨R2,λ t=>AV.str (bC t)⟩)],[8],dR⟩,[]⟩
theorem aNH (fu:Nat) (s:Str) (ss:List Str) (n:Nat):bB prog Tryz.f154 (aHO T0 R0 aG T1 R1 aN T2 R2 bC) fu [.str s,.s (.dat (.strs ss) n 1)]=(R0 [.str s,.int .u8 54]).bind λ t=>bif decide (1+n <= 1099511627776) then (R1 [.s (.dat (.strs ([aG t]++ss)) (1+n) 1)]).bind λ t=>(R0 [.str s,.int .u8 92]).bind λ dH=>(R2 [.agg (.ints .u8 (aN t)) 64]).bind λ t=>(R1 [.s (.dat (.strs ([aG dH]++[bC t])) 2 1)]).bind λ t=>(R2 [.agg (.ints .u8 (aN t)) 64]).bind λ t=>some (AV.str (bC t)) else none:=by kernel_rfl
end
section
variable (T0:Type) (R0:FA T0) (aG:T0->List UInt8) (T1:Type) (R1:FA T1) (aN:T1->List UInt8)
end
section
variable (T0:Type) (R0:FA T0) (aG:T0->List UInt8) (T1:Type) (R1:FA T1) (aN:T1->List UInt8)
end
section
variable (T0:Type) (R0:FA T0) (aG:T0->List UInt8) (T1:Type) (R1:FA T1) (T2:Type) (R2:FA T2) (bC:T2->List UInt8) (T3:Type) (R3:FA T3) (bO:T3->Bool)
end
abbrev Yc:Cg:=J4 
theorem aHP:CfOk prog Yc.c:=gk <| aK
abbrev aNI:Cg:=aHM 
theorem aHQ:CfOk prog aNI.c:=gk <| aK
theorem bAw (x y:Nat) (hx:x < 256) (hy:y < 256):fL .u8 (x:Int) (y:Int)=((x ^^^ y:Nat):Int):=by
 have:∀ x y:Fin 256,fL .u8 (x.1:Int) (y.1:Int)=((x.1 ^^^ y.1:Nat):Int):=by
  intro x y;unfold fL;have e:(BitVec.ofInt (IntKind.bits .u8) (x.1:Int) ^^^ BitVec.ofInt (IntKind.bits .u8) (y.1:Int)).toNat=x.1 ^^^ y.1:=by
   show (BitVec.ofInt 8 (x.1:Int) ^^^ BitVec.ofInt 8 (y.1:Int)).toNat=x.1 ^^^ y.1;rw [BitVec.toNat_xor,Yf,Yf,Sh,Sh,aV x.2,aV y.2]
  rw [e,Db,aV];exact PV (n:=8) x.2 y.2
 exact this ⟨x,hx⟩ ⟨y,hy⟩
theorem aNJ {α β:Type} (s:List α) (f g:α->β) (i:Nat) (h:i < s.length) (d:β) (e:α):((s.take i).map f++(s.drop i).map g).getD i d=g (s.getD i e):=by
 rw [fU,yP (by simp; omega),iA,dV,Ef (by omega),i0,Cx h,mQ,List.getElem?_cons_zero,fU,oD h]; rfl
theorem aWV {α β:Type} (s:List α) (f g:α->β) (i:Nat) (h:i < s.length) (e:α):((s.take i).map f++(s.drop i).map g).set i (f (s.getD i e))=(s.take (i+1)).map f++(s.drop (i+1)).map g:=by
 have e0:s.getD i e=s[i]:=by rw [fU,oD h]; rfl
 rw [Eb _ _ (by simp; omega),iA,dV,Ef (by omega),i0,Cx h,mQ,yS,e0,Hl,oD h,vG,lN]; rfl
def xf (x:Nat) (c:UInt8):Int:=((c.toNat ^^^ x:Nat):Int)
theorem aNK (s:Str) (hl:s.length <= 1099511627776) (x:Nat) (hx:x < 256) (m fu:Nat):∀ (d n i:Nat),i+d=s.length->d < n ->
  eS prog Yc fu PB (PC fu) n (some (Hi (x:Int) s.length (s.length:Int) (i:Int) m ((s.take i).map (xf x)++(s.drop i).map lO)))=some (.str (n8 s x)):=by
 intro d
 induction d with
 | zero=>
  intro n i hi hn;obtain ⟨n,rfl⟩:=aP (by omega:n ≠ 0);have e:i=s.length:=by omega
  rw [aF,Yb,aH (by omega),aD,aR,aAW,e,Ec,PG,List.map_nil,i8,KD]; rfl
 | succ d ih=>
  intro n i hi hn;obtain ⟨n,rfl⟩:=aP (by omega:n ≠ 0);have h:=ih n (i+1) (by omega) (by omega);have hc:=(s.getD i 0).toNat_lt;rw [aF,Yb,aE (by omega),aB,aE (by omega),aB,aB,bE,aNJ s _ _ i (by omega) _ 0];have hx':fL .u8 (lO (s.getD i 0)) (x:Int)=xf x (s.getD i 0):=bAw _ _ hc hx;rw [hx',aWV s (xf x) lO i (by omega) 0,bY (by omega) (by omega)];exact h
theorem aNL:CallOk prog 184 Ya:=by
 refine aZ (fu:=λ args=>match args with | .c (.s (.pl (.str s))) :: _=>s.length+1 | _=>0) aHP Tryz.func184 ?_;intro args t ht;unfold Ya at ht;simp only at ht;split at ht
 ·rename_i s x;obtain ⟨h1,h2⟩:=cC ht;subst h2;simp only [aX,bG,Lz,lC] at h1;obtain ⟨x,rfl⟩:=b9 h1.2.1;refine (aNE ..).trans ?_;rw [aE (by omega),aB,bE];have:=aNK s (by omega) x (by omega) s.length (s.length+1) s.length (s.length+1) 0 (by omega) (lD _);exact this
 ·cases ht
theorem Sd:CallOk prog 183 aDB:=by
 refine i7 aHQ Tryz.func183 ?_;intro args t ht;unfold aDB at ht;simp only at ht;split at ht
 ·rename_i s;obtain ⟨h1,h2⟩:=cC ht;subst h2;have h1:=aS h1;refine (aNF ..).trans ?_;rw [kU,fB (by omega)]; rfl
 ·cases ht
theorem aHR (s:Str):(hS s).length=64:=by rw [hS,iA,FQ,DV]
section
variable (T0:Type) (R0:FA T0)
end
abbrev aNM:Cg:=aHN (List Nat) aLV (λ t=>up t) (List UInt8) aDC (λ t=>t) (List UInt8) sC (λ t=>t)
theorem aHS:CfOk prog aNM.c:=gk <| aA TX <| aA Sd <| aA Fc <| aK
theorem Se {s:Str} {x:Nat} (h:s.length <= 1099511620000) (hx:x < 256):Sc [.str s,.int .u8 (x:Int)]=some (n8 s x):=by
 have e:(Lz s && decide (0 <= (x:Int) /\ (x:Int) < 256))=true:=by rw [aE (by omega),Lz,iX h]; rfl
 simp only [Sc,Ya,e,aB,bE]
theorem BQ (ss:List Str):Lib.join ss []=ss.flatten:=by
 cases ss with
 | nil=>rfl
 | cons x r=>
  rw [Lib.join_cons,Lib.joinTail];simp
theorem Sf (a:Str) (ss:List Str):Lib.join ([a]++ss) []=a++Lib.join ss []:=by rw [BQ,BQ]; rfl
theorem J5 {ss:List Str} {n:Nat} (h1:n=ss.length) (h2:ss.length <= 1048576) (h3:(Lib.join ss []).length <= 1099511627776):CK ss n=true:=by
 subst h1;rw [CK,lB,iX h2,iX h3]; rfl
theorem aWW {ss:List Str} {n:Nat} (h:okJ ss n=true):n=ss.length /\ ss.length <= 1048000 /\ (Lib.join ss []).length <= 1099511620000:=by
 simp only [okJ,aX,lC] at h;exact ⟨aS h.1.1,h.1.2,h.2⟩
theorem L6 (s:Str) (x:Nat):(n8 s x).length=s.length:=iA _
theorem aHT:CallOk prog 153 VG:=by
 refine i7 aHS Tryz.func153 ?_;intro args t ht;unfold VG at ht;simp only at ht;split at ht
 ·rename_i s;obtain ⟨h1,h2⟩:=cC ht;subst h2;rw [Lz,lC] at h1;refine (aNG ..).trans ?_;by_cases h:128 < s.length
  ·have e:aNC s=hS s:=aT h;have l:=aHR s;have w:i64.wrap ((128:Int) - ((hS s).length:Int))=((128 - (hS s).length:Nat):Int):=by rw [bY (by omega) (by omega)]; omega
   rw [aE (by omega),aB,NK (ss:=[s]) (n:=1) (J5 rfl (by simp) (by rw [Lib.join_one]; omega)),aC,Lib.join_one,Ip (by rw [FQ,DV]),aC];show (sC [AV.str [0],AV.int .i64 (i64.wrap ((128:Int) - ((hS s).length:Int)))]).bind (λ t=>bif decide ((hS s).length+t.length <= _) then some (AV.str (hS s++t)) else none)=_;rw [w,CY _ _ (by omega) (cK (show 1*(128 - (hS s).length) <= 128 by omega) (by decide)),aC,G6,aE (by omega),aB,In];show some (AV.str (hS s++List.replicate (128 - (hS s).length) 0))=some (.str (Fl s));rw [Fl,e]
  ·have e:aNC s=s:=aW h;have w:i64.wrap ((128:Int) - (s.length:Int))=((128 - s.length:Nat):Int):=by rw [bY (by omega) (by omega)]; omega
   rw [aH (by omega),aD,w,CY _ _ (by omega) (cK (show 1*(128 - s.length) <= 128 by omega) (by decide)),aC,G6,aE (by omega),aB,In];show _=some (AV.str (Fl s));rw [Fl,e]
 ·cases ht
abbrev aNN:Cg:=aHO (List UInt8) Sc (λ t=>t) (List Nat) aLV (λ t=>up t) (List UInt8) aDC (λ t=>t)
theorem aHU:CfOk prog aNN.c:=gk <| aA aNL <| aA TX <| aA Sd <| aK
theorem aHV:CallOk prog 154 PA:=by
 refine i7 aHU Tryz.func154 ?_;intro args t ht;unfold PA at ht;simp only at ht;split at ht
 ·rename_i k ss n;obtain ⟨h1,h2⟩:=cC ht;subst h2;rw [aX] at h1;have hk:=aS h1.1;obtain ⟨e,l1,l2⟩:=aWW h1.2;have m1:=L6 k 54;have m2:=L6 k 92;have j1:=Sf (n8 k 54) ss;refine (aNH ..).trans ?_;have r1:Sc [.str k,.int .u8 54]=some (n8 k 54):=Se (x:=54) (by omega) (by decide);have r2:Sc [.str k,.int .u8 92]=some (n8 k 92):=Se (x:=92) (by omega) (by decide);rw [r1,aC,aE (by omega),aB,NK (ss:=[n8 k 54]++ss) (n:=1+n) (J5 (by rw [i9,KC,e]) (by rw [i9,KC]; omega) (by rw [j1,i9]; omega)),aC,r2,aC,j1,
   Ip (by rw [FQ,DV]),aC]
  show (aLV [AV.s (.dat (.strs ([n8 k 92]++[hS (n8 k 54++Lib.join ss [])])) 2 1)]).bind _=_;have j2:=Sf (n8 k 92) [hS (n8 k 54++Lib.join ss [])];rw [Lib.join_one] at j2;have l3:=aHR (n8 k 54++Lib.join ss []);rw [NK (ss:=[n8 k 92]++[hS (n8 k 54++Lib.join ss [])]) (n:=2) (J5 rfl (by simp) (by rw [j2,i9]; omega)),aC,j2,Ip (by rw [FQ,DV]),aC]; rfl
 ·cases ht
end
end Go.Eng
