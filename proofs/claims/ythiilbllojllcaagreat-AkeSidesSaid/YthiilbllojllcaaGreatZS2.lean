import Derived.Test.YthiilbllojllcaaGreatZS1
namespace Go.Eng
open Go.IntKind (u64 i64 u8)
noncomputable section
open Go Go.Proofs
set_option linter.all false
section
variable (T0:Type) (R0:FA T0) (aG:T0->List UInt8) (T1:Type) (R1:FA T1) (aM:T1->List UInt8) (T2:Type) (R2:FA T2) (T3:Type) (R3:FA T3) (T4:Type) (R4:FA T4) (dG:T4->List Int)
def wJ:Cg:=⟨⟨cV [(118,⟨R0,λ t=>AV.str (aG t)⟩),(119,⟨R1,λ t=>AV.str (aM t)⟩),(120,⟨R2,λ t=>AV.agg (.ints .u64 (up hN)) 8⟩),(121,⟨R3,λ t=>AV.agg (.ints .u64 (up kN)) 80⟩),(122,⟨R4,λ t=>AV.agg (.ints .u64 (dG t)) 8⟩)],[],cX⟩,[(6,[2,3,4,5],[2,3]),(10,[2,3,6,7],[2,6]),(15,[2,6,8,48],[2,8])]⟩
def Je (s3:Str) (v4 v5:Int) (aQ:List Int):St:={ tm:=[(2,.s (.ptr 0 0 64)),(3,.str s3),(4,.int .u64 v4),(5,.int .i64 v5)],hp:=[(0,{ ty:=116,n:=64,row:=Row.t (.ints .u8 aQ) })],nx:=1,sz:=65 }
def Q6:Code:=cN (bN [1,1,1,1,0,1,2] (bB Tryz.f78))
def Q7 (fu:Nat):=mD prog (wJ T0 R0 aG T1 R1 aM T2 R2 T3 R3 T4 R4 dG) fu [1,1,1,1,0,1,2] (bB Tryz.f78) (gI prog Tryz.f78)
abbrev aSn (fu:Nat) (s3:Str) (v4 v5:Int) (aQ:List Int):=eV prog (wJ T0 R0 aG T1 R1 aM T2 R2 T3 R3 T4 R4 dG) fu Q6 (Q7 T0 R0 aG T1 R1 aM T2 R2 T3 R3 T4 R4 dG fu ) fu (some (Je s3 v4 v5 aQ))
theorem aSo (fu:Nat) (ss:List Str) (n:Nat):aS prog Tryz.f78 (wJ T0 R0 aG T1 R1 aM T2 R2 T3 R3 T4 R4 dG) fu [.s (.dat (.strs ss) n 1)]=(R0 [.s (.dat (.strs ss) n 1),.str []]).bind λ t=>(R1 [.str [(0:UInt8)],.int .i64 ((i64.wrap (247 - (↑(aG t).length:Int).tmod 128)).tmod 128)]).bind λ bY=>bif decide (1+(aM bY).length <= 9223372036854775807) then bif decide ((aG t).length+List.length ([(128:UInt8)]++aM bY) <= 9223372036854775807) then aSn T0 R0 aG T1 R1 aM T2 R2 T3 R3 T4 R4 dG fu (aG t++([(128:UInt8)]++aM bY)) (u64.wrap (u64.wrap (↑(aG t).length:Int)*8)) 7 [0,0,0,0,0,0,0,0,0,0,0,0,0,0,0,0,0,0,0,0,0,0,0,0,0,0,0,0,0,0,0,0,0,0,0,0,0,0,0,0,0,0,0,0,0,0,0,0,0,0,0,0,0,0,0,0,0,0,0,0,0,0,0,0] else none else none:=by kernel_rfl
def Oe (s3:Str) (aQ:List Int):St:={ tm:=[(2,.s (.ptr 0 0 64)),(3,.str s3)],hp:=[(0,{ ty:=116,n:=64,row:=Row.t (.ints .u8 aQ) })],nx:=1,sz:=65 }
theorem aBL {β:Type} (fu:Nat) (G:FG β) (H:FH β) (s3:Str) (v4 v5:Int) (aQ:List Int):fV prog (wJ T0 R0 aG T1 R1 aM T2 R2 T3 R3 T4 R4 dG) fu Q6 G H (Je s3 v4 v5 aQ)=bif decide (0 <= v5) then bif decide (i64.wrap (8*v5) < 0) then none else bif decide (List.length s3+1 <= 9223372036854775807) then G (some (Je (s3++List.map b8 [u8.wrap (eJ .u64 v4 (i64.wrap (8*v5)))]) v4 (i64.wrap (v5 - 1)) aQ)) else none else H (Ex.exit 0) (some (Oe s3 aQ)):=by kernel_rfl
def Jf (s3:Str) (aQ bC dE:List Int):St:={ tm:=[(2,.s (.ptr 0 0 64)),(3,.str s3),(6,.s (.ptr 1 0 8)),(7,.s (.ptr 2 0 80))],hp:=[(0,{ ty:=116,n:=64,row:=Row.t (.ints .u8 aQ) }),(1,{ ty:=147,n:=8,row:=Row.t (.ints .u64 bC) }),(2,{ ty:=149,n:=80,row:=Row.t (.ints .u64 dE) })],nx:=3,sz:=65 }
def Q8:Code:=cN (bN [1,1,1,1,1,1,0,2] (bB Tryz.f78))
def Q9 (fu:Nat):=mD prog (wJ T0 R0 aG T1 R1 aM T2 R2 T3 R3 T4 R4 dG) fu [1,1,1,1,1,1,0,2] (bB Tryz.f78) (gI prog Tryz.f78)
abbrev aBM (fu:Nat) (s3:Str) (aQ bC dE:List Int):=eV prog (wJ T0 R0 aG T1 R1 aM T2 R2 T3 R3 T4 R4 dG) fu Q8 (Q9 T0 R0 aG T1 R1 aM T2 R2 T3 R3 T4 R4 dG fu ) fu (some (Jf s3 aQ bC dE))
theorem aE5 (fu:Nat) (s3:Str) (aQ:List Int):Q7 T0 R0 aG T1 R1 aM T2 R2 T3 R3 T4 R4 dG fu  (Ex.exit 0) (Oe s3 aQ)=(R2 []).bind λ t=>(R3 []).bind λ t=>aBM T0 R0 aG T1 R1 aM T2 R2 T3 R3 T4 R4 dG fu s3 aQ (up hN) (up kN):=by kernel_rfl
def Of (aQ bC:List Int):St:={ tm:=[(2,.s (.ptr 0 0 64)),(6,.s (.ptr 1 0 8))],hp:=[(0,{ ty:=116,n:=64,row:=Row.t (.ints .u8 aQ) }),(1,{ ty:=147,n:=8,row:=Row.t (.ints .u64 bC) })],nx:=2,sz:=65 }
theorem aBN {β:Type} (fu:Nat) (G:FG β) (H:FH β) (s3:Str) (aQ bC dE:List Int):fV prog (wJ T0 R0 aG T1 R1 aM T2 R2 T3 R3 T4 R4 dG) fu Q8 G H (Jf s3 aQ bC dE)=bif !decide (s3=[]) then bif decide ((0:Int) <= 0 /\ (0:Int) <= 128 /\ 128 <= (↑(List.length s3):Int)) then (R4 [.agg (.ints .u64 bC) 8,.s (.rptr (.ints .u64 dE) 0 80),.str (sl s3 0 128)]).bind λ t=>bif decide ((0:Int) <= 128 /\ 128 <= (↑(List.length s3):Int) /\ (↑(List.length s3):Int) <= (↑(List.length s3):Int)) then G (some (Jf (sl s3 128 (↑(List.length s3):Int)) aQ (dG t) dE)) else none else none else H (Ex.exit 2) (some (Of aQ bC)):=by kernel_rfl
def Jg (Zy:Int) (aQ bC dE:List Int):St:={ tm:=[(2,.s (.ptr 0 0 64)),(6,.s (.ptr 1 0 8)),(8,.s (.ptr 2 0 64)),(48,.int .i64 Zy)],hp:=[(0,{ ty:=116,n:=64,row:=Row.t (.ints .u8 aQ) }),(1,{ ty:=147,n:=8,row:=Row.t (.ints .u64 bC) }),(2,{ ty:=116,n:=64,row:=Row.t (.ints .u8 dE) })],nx:=3,sz:=65 }
def RA:Code:=cN (bN [1,1,1,1,1,1,1,1,0,1,2] (bB Tryz.f78))
def RC (fu:Nat):=mD prog (wJ T0 R0 aG T1 R1 aM T2 R2 T3 R3 T4 R4 dG) fu [1,1,1,1,1,1,1,1,0,1,2] (bB Tryz.f78) (gI prog Tryz.f78)
abbrev aBO (fu:Nat) (Zy:Int) (aQ bC dE:List Int):=eV prog (wJ T0 R0 aG T1 R1 aM T2 R2 T3 R3 T4 R4 dG) fu RA (RC T0 R0 aG T1 R1 aM T2 R2 T3 R3 T4 R4 dG fu ) fu (some (Jg Zy aQ bC dE))
theorem aE6 (fu:Nat) (aQ bC:List Int):Q9 T0 R0 aG T1 R1 aM T2 R2 T3 R3 T4 R4 dG fu  (Ex.exit 2) (Of aQ bC)=aBO T0 R0 aG T1 R1 aM T2 R2 T3 R3 T4 R4 dG fu 0 aQ bC [0,0,0,0,0,0,0,0,0,0,0,0,0,0,0,0,0,0,0,0,0,0,0,0,0,0,0,0,0,0,0,0,0,0,0,0,0,0,0,0,0,0,0,0,0,0,0,0,0,0,0,0,0,0,0,0,0,0,0,0,0,0,0,0]:=by kernel_rfl
def Og (aQ bC:List Int):St:={ tm:=[(2,.s (.ptr 0 0 64)),(8,.s (.ptr 1 0 64))],hp:=[(0,{ ty:=116,n:=64,row:=Row.t (.ints .u8 aQ) }),(1,{ ty:=116,n:=64,row:=Row.t (.ints .u8 bC) })],nx:=2,sz:=65 }
theorem aBP {β:Type} (fu:Nat) (G:FG β) (H:FH β) (Zy:Int) (aQ bC dE:List Int):fV prog (wJ T0 R0 aG T1 R1 aM T2 R2 T3 R3 T4 R4 dG) fu RA G H (Jg Zy aQ bC dE)=bif decide (Zy < 64) then bif decide (0 <= i64.wrap (Zy.tdiv 8) /\ i64.wrap (Zy.tdiv 8) < 8) then bif decide (i64.wrap (56 - i64.wrap (8*Zy.tmod 8)) < 0) then none else bif decide (0 <= Zy /\ Zy < 64) then G (some (Jg (i64.wrap (Zy+1)) aQ bC (dE.set (0+Zy.toNat) (u8.wrap (eJ .u64 (bC.getD (0+(i64.wrap (Zy.tdiv 8)).toNat) 0) (i64.wrap (56 - i64.wrap (8*Zy.tmod 8)))))))) else none else none else H (Ex.exit 4) (some (Og aQ dE)):=by kernel_rfl
theorem aE7 (fu:Nat) (aQ bC:List Int):RC T0 R0 aG T1 R1 aM T2 R2 T3 R3 T4 R4 dG fu  (Ex.exit 4) (Og aQ bC)=some (AV.agg (.ints .u8 bC) 64):=by kernel_rfl
end
def Lq:Cg:=⟨⟨cV [],[],cX⟩,[(4,[1,3,4],[3])]⟩
def Jh (n3:Nat) (v4:Int) (aQ:List Int) (eM:Nat) (bC:List Int):St:={ tm:=[(1,.s (.ptr 0 0 64)),(3,.s (.own 1 n3 1)),(4,.int .i64 v4)],hp:=[(0,{ ty:=116,n:=64,row:=Row.t (.ints .u8 aQ) }),(1,{ ty:=5,n:=eM,row:=Row.t (.ints .u8 bC) })],nx:=2,sz:=18 }
def RD:Code:=cN (bN [1,1,0,1,2] (bB Tryz.f191))
def RE (fu:Nat):=mD prog Lq fu [1,1,0,1,2] (bB Tryz.f191) (gI prog Tryz.f191)
abbrev aSp (fu:Nat) (n3:Nat) (v4:Int) (aQ:List Int) (eM:Nat) (bC:List Int):=eV prog Lq fu RD (RE fu ) fu (some (Jh n3 v4 aQ eM bC))
theorem aSq (fu:Nat) (s:List Int):aS prog Tryz.f191 Lq fu [.agg (.ints .u8 s) 64]=aSp fu 64 0 s 64 (List.replicate 64 0):=by kernel_rfl
def Oh (n3 fL:Nat) (aQ:List Int):St:={ tm:=[(3,.s (.own 0 n3 1))],hp:=[(0,{ ty:=5,n:=fL,row:=Row.t (.ints .u8 aQ) })],nx:=1,sz:=18 }
theorem aBQ {β:Type} (fu:Nat) (G:FG β) (H:FH β) (n3:Nat) (v4:Int) (aQ:List Int) (eM:Nat) (bC:List Int):fV prog Lq fu RD G H (Jh n3 v4 aQ eM bC)=bif decide (v4 < 64) then bif decide (0 <= v4 /\ v4 < 64) then bif decide (0 <= v4 /\ v4 < (n3:Int)) then G (some (Jh n3 (i64.wrap (v4+1)) aQ eM (bC.set v4.toNat (aQ.getD (0+v4.toNat) 0)))) else none else none else H (Ex.exit 0) (some (Oh n3 eM bC)):=by kernel_rfl
theorem aE8 (fu:Nat) (n3 fL:Nat) (aQ:List Int):RE fu  (Ex.exit 0) (Oh n3 fL aQ)=some (AV.str (List.map b8 aQ)):=by kernel_rfl
def aKS:Cg:=⟨⟨cV [],[],cX⟩,[]⟩
theorem aSr (fu:Nat) (n:Int):aS prog Tryz.f178 aKS fu [.int .i64 n]=some (AV.str (List.map b8 ([u8.wrap (i64.wrap (n.tdiv 256))]++[u8.wrap n]))):=by kernel_rfl
def Lr:Cg:=⟨⟨cV [],[],cX⟩,[(4,[3,6,7,8],[3])]⟩
def Ji (s3:List UInt8) (x6:List Str) (n6:Nat) (v7 v8:Int):St:={ tm:=[(3,.str s3),(6,.s (.dat (.strs x6) n6 1)),(7,.int .i64 v7),(8,.int .i64 v8)],hp:=[],nx:=0,sz:=27 }
def RF:Code:=cN (bN [1,1,0,1,2] (bB Tryz.f152))
def RG (fu:Nat):=mD prog Lr fu [1,1,0,1,2] (bB Tryz.f152) (gI prog Tryz.f152)
abbrev aSs (fu:Nat) (s3:List UInt8) (x6:List Str) (n6:Nat) (v7 v8:Int):=eV prog Lr fu RF (RG fu ) fu (some (Ji s3 x6 n6 v7 v8))
theorem aSt (fu:Nat) (ss:List Str) (n:Nat):aS prog Tryz.f152 Lr fu [.s (.dat (.strs ss) n 1)]=aSs fu [] ss n (n:Int) 0:=by kernel_rfl
def Oi (s3:List UInt8):St:={ tm:=[(3,.str s3)],hp:=[],nx:=0,sz:=27 }
theorem aBR {β:Type} (fu:Nat) (G:FG β) (H:FH β) (s3:List UInt8) (x6:List Str) (n6:Nat) (v7 v8:Int):fV prog Lr fu RF G H (Ji s3 x6 n6 v7 v8)=bif decide (v8 < v7) then bif decide (0 <= v8 /\ v8 < (n6:Int)) then bif decide (2+List.length (x6.getD v8.toNat []) <= 9223372036854775807) then bif decide (s3.length+List.length (List.map b8 ([u8.wrap (eJ .i64 (↑(List.length (x6.getD v8.toNat [])):Int) 8)]++[u8.wrap (↑(List.length (x6.getD v8.toNat [])):Int)])++x6.getD v8.toNat []) <= 9223372036854775807) then G (some (Ji (s3++(List.map b8 ([u8.wrap (eJ .i64 (↑(List.length (x6.getD v8.toNat [])):Int) 8)]++[u8.wrap (↑(List.length (x6.getD v8.toNat [])):Int)])++x6.getD v8.toNat [])) x6 n6 v7 (i64.wrap (v8+1)))) else none else none else none else H (Ex.exit 0) (some (Oi s3)):=by kernel_rfl
theorem aE9 (fu:Nat) (s3:List UInt8):RG fu  (Ex.exit 0) (Oi s3)=some (AV.str s3):=by kernel_rfl
def Ls:Cg:=⟨⟨cV [],[],cX⟩,[(4,[0,3,4],[3])]⟩
def Jj (s0:Str) (s3:List UInt8) (v4:Int):St:={ tm:=[(0,.str s0),(3,.str s3),(4,.int .i64 v4)],hp:=[],nx:=0,sz:=35 }
def RH:Code:=cN (bN [1,1,0,1,2] (bB Tryz.f60))
def RI (fu:Nat):=mD prog Ls fu [1,1,0,1,2] (bB Tryz.f60) (gI prog Tryz.f60)
abbrev aSu (fu:Nat) (s0:Str) (s3:List UInt8) (v4:Int):=eV prog Ls fu RH (RI fu ) fu (some (Jj s0 s3 v4))
theorem aSv (fu:Nat) (s:Str):aS prog Tryz.f60 Ls fu [.str s]=aSu fu s [] 0:=by kernel_rfl
def Oj (s3:List UInt8):St:={ tm:=[(3,.str s3)],hp:=[],nx:=0,sz:=35 }
theorem aBS {β:Type} (fu:Nat) (G:FG β) (H:FH β) (s0:Str) (s3:List UInt8) (v4:Int):fV prog Ls fu RH G H (Jj s0 s3 v4)=bif decide (v4 < (↑(List.length s0):Int)) then bif decide (0 <= v4 /\ v4 < (↑(List.length s0):Int)) then bif decide (0 <= v4 /\ v4 < (↑(List.length s0):Int)) then bif decide (0 <= i64.wrap ((i64.wrap (↑(List.getD s0 v4.toNat (0:UInt8)).toNat:Int)).tdiv 16) /\ i64.wrap ((i64.wrap (↑(List.getD s0 v4.toNat (0:UInt8)).toNat:Int)).tdiv 16) <= i64.wrap (i64.wrap ((i64.wrap (↑(List.getD s0 v4.toNat (0:UInt8)).toNat:Int)).tdiv 16)+1) /\ i64.wrap (i64.wrap ((i64.wrap (↑(List.getD s0 v4.toNat (0:UInt8)).toNat:Int)).tdiv 16)+1) <= 16) then bif decide (s3.length+(sl [(48:UInt8),49,50,51,52,53,54,55,56,57,97,98,99,100,101,102] (i64.wrap ((i64.wrap (↑(List.getD s0 v4.toNat (0:UInt8)).toNat:Int)).tdiv 16)) (i64.wrap (i64.wrap ((i64.wrap (↑(List.getD s0 v4.toNat (0:UInt8)).toNat:Int)).tdiv 16)+1))).length <= 9223372036854775807) then bif decide (0 <= (i64.wrap (↑(List.getD s0 v4.toNat (0:UInt8)).toNat:Int)).tmod 16 /\ (i64.wrap (↑(List.getD s0 v4.toNat (0:UInt8)).toNat:Int)).tmod 16 <= i64.wrap ((i64.wrap (↑(List.getD s0 v4.toNat (0:UInt8)).toNat:Int)).tmod 16+1) /\ i64.wrap ((i64.wrap (↑(List.getD s0 v4.toNat (0:UInt8)).toNat:Int)).tmod 16+1) <= 16) then bif decide (List.length (s3++sl [(48:UInt8),49,50,51,52,53,54,55,56,57,97,98,99,100,101,102] (i64.wrap ((i64.wrap (↑(List.getD s0 v4.toNat (0:UInt8)).toNat:Int)).tdiv 16)) (i64.wrap (i64.wrap ((i64.wrap (↑(List.getD s0 v4.toNat (0:UInt8)).toNat:Int)).tdiv 16)+1)))+(sl [(48:UInt8),49,50,51,52,53,54,55,56,57,97,98,99,100,101,102] ((i64.wrap (↑(List.getD s0 v4.toNat (0:UInt8)).toNat:Int)).tmod 16) (i64.wrap ((i64.wrap (↑(List.getD s0 v4.toNat (0:UInt8)).toNat:Int)).tmod 16+1))).length <= 9223372036854775807) then G (some (Jj s0 (s3++sl [(48:UInt8),49,50,51,52,53,54,55,56,57,97,98,99,100,101,102] (i64.wrap ((i64.wrap (↑(List.getD s0 v4.toNat (0:UInt8)).toNat:Int)).tdiv 16)) (i64.wrap (i64.wrap ((i64.wrap (↑(List.getD s0 v4.toNat (0:UInt8)).toNat:Int)).tdiv 16)+1))++sl [(48:UInt8),49,50,51,52,53,54,55,56,57,97,98,99,100,101,102] ((i64.wrap (↑(List.getD s0 v4.toNat (0:UInt8)).toNat:Int)).tmod 16) (i64.wrap ((i64.wrap (↑(List.getD s0 v4.toNat (0:UInt8)).toNat:Int)).tmod 16+1))) (i64.wrap (v4+1)))) else none else none else none else none else none else none else H (Ex.exit 0) (some (Oj s3)):=by kernel_rfl
theorem aFa (fu:Nat) (s3:List UInt8):RI fu  (Ex.exit 0) (Oj s3)=some (AV.str s3):=by kernel_rfl
abbrev GE:Cg:=wJ (List UInt8) Dv (λ t=>t) (List UInt8) oB (λ t=>t) (PUnit) Ei (PUnit) Mc (List Nat) Me (λ t=>up t)
theorem aKT:CfOk prog GE.c:=gk <| aA aAJ <| aA HU <| aA aMo <| aA aTG <| aA aTJ <| aH
abbrev sC:List Int:=[0,0,0,0,0,0,0,0,0,0,0,0,0,0,0,0,0,0,0,0,0,0,0,0,0,0,0,0,0,0,0,0,0,0,0,0,0,0,0,0,0,0,0,0,0,0,0,0,0,0,0,0,0,0,0,0,0,0,0,0,0,0,0,0]
theorem VM (l:List Nat):dn (up l)=l:=by
 rw [dn,up,NF];exact (Ci λ n _=>bD n).trans (List.map_id _)
theorem bDS {l:List Nat} (h:∀ x ∈ l,x < 18446744073709551616):tU (up l)=true:=by
 induction l with
 | nil=>rfl
 | cons x r ih=>
  show (decide (0 <= (x:Int) /\ (x:Int) < 18446744073709551616) && tU (up r))=true;have:=h x (by simp);rw [aD (by omega),ih λ y hy=>h y (by simp [hy])]; rfl
theorem aSw {l:List Nat} (h:Gl l):∀ x ∈ l,x < 18446744073709551616:=by
 intro x hx;obtain ⟨i,hi⟩:=Zv.1 hx;have:=h i;rw [jM,hi] at this;exact this
theorem aKU {h:List Nat} {b:Str} (hl:h.length=8) (ok:Gl h) (hb:b.length=128):Me [.agg (.ints .u64 (up h)) 8,.s (.rptr (.ints .u64 (up kN)) 0 80),.str b]=some (Gd h b):=by
 show cond (aL9 (up h) && decide (up kN=up kN) && Nat.beq b.length 128) (some (Gd (dn (up h)) b)) none=_;have e:aL9 (up h)=true:=by rw [aL9,Ad,hl,bDS (aSw ok)]; rfl
 rw [e,aD rfl,hb,VM]; rfl
theorem aKV (s t:List Nat):∀ i,(Md s t i).length=s.length:=by
 intro i
 induction i with
 | zero=>rfl
 | succ i ih=>rw [Md,NE,ih]
theorem aSx {s:List Nat} (t:List Nat) (h:Gl s):∀ i,Gl (Md s t i):=by
 intro i
 induction i with
 | zero=>exact h
 | succ i ih=>exact aCR ih _ (SR _)
theorem Lt (n:Nat):∀ k,(be n k).length=k:=by
 intro k
 induction k with
 | zero=>rfl
 | succ k ih=>rw [be,cD,ih]; rfl
theorem aFb:Ei []=some ():=rfl
theorem aKW:Mc []=some ():=rfl
theorem AS (s:Str) (n:Nat) (h:n <= 140737488355328) (h2:s.length*n <= Du):oB [.str s,.int .i64 (n:Int)]=some (Lib.repeatL s n):=by
 show cond (decide (0 <= (n:Int)) && decide ((n:Int) <= 140737488355328) && Nat.ble (s.length*(n:Int).toNat) Du) (some (Lib.repeatL s (n:Int).toNat)) none=_;rw [aD (by omega),aD (by omega),bD,show Nat.ble (s.length*n) Du=true by rw [dJ]; exact h2]; rfl
theorem aKX (P:Str) (hP:P.length <= 4398046511104) (m:Nat) (hm:m < 18446744073709551616) (y:List Int) (fu:Nat):∀ (d n k:Nat),k+d=8->d < n ->
  eV prog GE fu Q6 (Q7 _ Dv (λ t=>t) _ oB (λ t=>t) _ Ei _ Mc _ Me (λ t=>up t) fu) n (some (Je (P++be m k) (m:Int) (7 - (k:Int)) y)) =
   aBM _ Dv (λ t=>t) _ oB (λ t=>t) _ Ei _ Mc _ Me (λ t=>up t) fu (P++be m 8) y (up hN) (up kN):=by
 intro d
 induction d with
 | zero=>
  intro n k hk hn;obtain ⟨n,rfl⟩:=aP (by omega:n ≠ 0);have:k=8:=by omega
  subst this;rw [aF,aBL,aJ (by decide),aE,aR,aE5,aFb,aC,aKW,aC]
 | succ d ih=>
  intro n k hk hn;obtain ⟨n,rfl⟩:=aP (by omega:n ≠ 0);have h:=ih n (k+1) (by omega) (by omega);have hl:=Lt m k;have hix:i64.wrap ((8:Int)*(7 - (k:Int)))=((8*(7 - k):Nat):Int):=by rw [bW (by omega) (by omega)]; omega
  rw [aF,aBL,aD (by omega),aB,hix,aJ (by omega),aE,aD (by rw [cD,hl]; omega),aB,pF _ _ (by omega),qD,bW (by omega) (by omega),iO];rw [show (7:Int) - (k:Int) - 1=7 - ((k+1:Nat):Int) by omega];exact h
theorem RJ:Gl hN:=by
 intro i;by_cases h:i < 8
 ·have:∀ i:Fin 8,hN.getD i.1 0 < 18446744073709551616:=by decide
  exact this ⟨i,h⟩
 ·rw [jM,Ch (by show 8 <= i; omega)]; decide
theorem Ol {h:List Nat} (b:Str) (hl:h.length=8):(Gd h b).length=8:=by rw [Gd,aKV,hl]
theorem Lu {h:List Nat} (b:Str) (ok:Gl h):Gl (Gd h b):=aSx _ ok 8
theorem aKY (y:List Int) (fu:Nat):∀ (q n:Nat) (s:Str) (h:List Nat),s.length=128*q->h.length=8->Gl h->s.length < 9223372036854775808->q < n ->
  eV prog GE fu Q8 (Q9 _ Dv (λ t=>t) _ oB (λ t=>t) _ Ei _ Mc _ Me (λ t=>up t) fu) n (some (Jf s y (up h) (up kN))) =
   aBO _ Dv (λ t=>t) _ oB (λ t=>t) _ Ei _ Mc _ Me (λ t=>up t) fu 0 y (up (Ej h q s)) sC:=by
 intro q
 induction q with
 | zero=>
  intro n s h hs hl ok hb hn;obtain ⟨n,rfl⟩:=aP (by omega:n ≠ 0);have:s=[]:=qI (by omega);subst this;rw [aF,aBN,aD rfl,iD,aE,aR,aE6]; rfl
 | succ q ih=>
  intro n s h hs hl ok hb hn;obtain ⟨n,rfl⟩:=aP (by omega:n ≠ 0);have hne:¬ s=[]:=λ e=>by rw [e] at hs; simp at hs
  have e1:sl s 0 128=s.take 128:=by rw [sl]; rfl
  have e2:sl s 128 (s.length:Int)=s.drop 128:=by
   rw [sl,d9]
   ·rfl
   rw [lD]; show s.length - 128 <= ((s.length:Int) - 128).toNat; omega
  have ht:(s.take 128).length=128:=by rw [dH]; omega
  rw [aF,aBN,aJ hne,jB,aB,aD (by omega),aB,e1,aKU hl ok ht,aC,aD (by omega),aB,e2];exact ih n (s.drop 128) (Gd h (s.take 128)) (by rw [lD]; omega) (Ol _ hl) (Lu _ ok) (by rw [lD]; omega) (by omega)
theorem VN (h:List Nat) (k:Nat):(Gg h k).length=k:=by rw [Gg,eZ,List.length_range]
theorem VO (h:List Nat) (i:Nat) (hi:i < 64):(up (Gg h i)++List.replicate (64 - i) 0).set i ((h.getD (i / 8) 0 / 2 ^ (56 - 8*(i%8))%256:Nat):Int)=up (Gg h (i+1))++List.replicate (64 - (i+1)) 0:=by
 have e:up (Gg h (i+1))=up (Gg h i)++[((h.getD (i / 8) 0 / 2 ^ (56 - 8*(i%8))%256:Nat):Int)]:=by
  rw [Gg,List.range_succ,rP,up,rP]; rfl
 have hl:(up (Gg h i)).length=i:=by rw [Ad,VN]
 rw [e,Aq _ _ (by rw [hl]; omega),hl,iL,show 64 - i=64 - (i+1)+1 by omega,x8,u5,iO]; rfl
theorem aKZ (h:List Nat) (ok:Gl h) (y:List Int) (fu:Nat):∀ (d n i:Nat),i+d=64->d < n ->
  eV prog GE fu RA (RC _ Dv (λ t=>t) _ oB (λ t=>t) _ Ei _ Mc _ Me (λ t=>up t) fu) n (some (Jg (i:Int) y (up h) (up (Gg h i)++List.replicate (64 - i) 0)))=some (.agg (.ints .u8 (up (Gg h 64))) 64):=by
 intro d
 induction d with
 | zero=>
  intro n i hi hn;obtain ⟨n,rfl⟩:=aP (by omega:n ≠ 0);have:i=64:=by omega
  subst this;rw [aF,aBP,aJ (by decide),aE,aR,aE7,iL,sJ,jC]
 | succ d ih=>
  intro n i hi hn;obtain ⟨n,rfl⟩:=aP (by omega:n ≠ 0);have h':=ih n (i+1) (by omega) (by omega);have h1:((i:Nat):Int).tdiv 8=((i / 8:Nat):Int):=by rw [qH (by omega)]; omega
  have h2:((i:Nat):Int).tmod 8=((i%8:Nat):Int):=by rw [mQ (by omega)]; omega
  have e1:i64.wrap (((i:Nat):Int).tdiv 8)=((i / 8:Nat):Int):=by rw [h1]; exact bW (by omega) (by omega)
  have e2:i64.wrap ((56:Int) - i64.wrap ((8:Int)*((i:Nat):Int).tmod 8))=((56 - 8*(i%8):Nat):Int):=by
   rw [h2,bW (n:=8*((i%8:Nat):Int)) (by omega) (by omega),bW (by omega) (by omega)]; omega
  rw [aF,aBP,aD (by omega),aB,e1,e2,aD (by omega),aB,aJ (by omega),aE,aD (by omega),aB,bD,bD,bT,bT,oG,pF _ _ (by omega),qD,bW (by omega) (by omega),VO h i (by omega)];exact h'
theorem Om:∀ (q:Nat) (s:Str) (h:List Nat),Gl h->Gl (Ej h q s):=by
 intro q
 induction q with
 | zero=>intro s h ok; exact ok
 | succ q ih=>intro s h ok; exact ih _ _ (Lu _ ok)
theorem Jk (p:Nat):(Lib.repeatL ([0]:Str) p).length=p:=by rw [Lib.repeatL_length]; simp
theorem GF (t:Str):(Gf t).length=t.length+1+(247 - t.length%128)%128:=by
 rw [Gf,cD,cD,Jk]; simp; omega
theorem VP (t:Str):(full t).length=128*((full t).length / 128):=by
 have:(full t).length=t.length+1+(247 - t.length%128)%128+8:=by rw [full,cD,GF,Lt]
 omega
theorem Lv (h:List Nat):up (Gg h 0)++List.replicate (64 - 0) 0=sC:=rfl
theorem VQ {ss:List Str} {n:Nat} (h:nZ ss n=true):Dv [.s (.dat (.strs ss) n 1),.str []]=some (Lib.join ss []):=by
 simp only [nZ,aW,dJ] at h;show cond (Nat.beq n ss.length && Nat.ble ss.length Du && Nat.ble (Lib.join ss []).length Du) (some (Lib.join ss [])) none=_;have a:Nat.ble ss.length Du=true:=by rw [dJ]; exact dC h.1.2 (by decide)
 have b:Nat.ble (Lib.join ss []).length Du=true:=by rw [dJ]; exact dC h.2 (by decide)
 rw [h.1.1,a,b]; rfl
theorem bDT (ss:List Str) (n:Nat) (h:nZ ss n=true) (fu:Nat) (hf:(full (Lib.join ss [])).length+100 < fu) :
  aS prog Tryz.f78 GE fu [.s (.dat (.strs ss) n 1)]=some (.agg (.ints .u8 (up (Gh (Lib.join ss [])))) 64):=by
 refine (aSo ..).trans ?_;rw [VQ h,aC];simp only [nZ,aW,dJ] at h;have hb:=h.2;generalize Lib.join ss []=t at hb hf ⊢;have hp:(i64.wrap ((247:Int) - ((t.length:Nat):Int).tmod 128)).tmod 128=(((247 - t.length%128)%128:Nat):Int):=by
  have h2:((t.length:Nat):Int).tmod 128=((t.length%128:Nat):Int):=by rw [mQ (by omega)]; omega
  rw [h2,bW (by omega) (by omega),show (247:Int) - ((t.length%128:Nat):Int)=((247 - t.length%128:Nat):Int) by omega,mQ (by omega)]; omega
 have hr:=Jk ((247 - t.length%128)%128);rw [hp,AS _ _ (by omega) (dC (show 1*((247 - t.length%128)%128) <= 128 by omega) (by decide)),aC,aD (by omega),aB,aD (by rw [cD,hr]; show t.length+(1+_) <= _; omega),aB];have hw:u64.wrap (u64.wrap ((t.length:Nat):Int)*8)=((t.length*8:Nat):Int):=by
  rw [gP,aY (by omega),show ((t.length:Nat):Int)*8=((t.length*8:Nat):Int) by omega,gP,aY (by omega)]
 rw [hw];have hl:=GF t;have a:=aKX (Gf t) (by omega) (t.length*8) (by omega) sC fu 8 fu 0 (by omega) (by omega);have fl:=VP t;have b:=aKY sC fu ((full t).length / 128) fu (full t) hN fl rfl RJ (by rw [full,cD,Lt]; omega) (by omega);have c:=aKZ (Ej hN ((full t).length / 128) (full t)) (Om _ _ _ RJ) sC fu 64 fu 0 (by omega) (by omega);rw [Lv] at c;rw [show Gf t++be (t.length*8) 0=Gf t from jC _] at a;exact iW a (iW b c)
theorem EZ:CallOk prog 78 bEO:=by
 refine aZ (fu:=λ args=>match args with | [.c (.s (.dat (.strs ss) n 1))]=>(full (Lib.join ss [])).length+101 | _=>0) aKT Tryz.func78 ?_;intro args t ht;unfold bEO at ht;simp only at ht;split at ht
 ·rename_i ss n;obtain ⟨h1,h2⟩:=bO ht;subst h2;exact bDT ss n h1 _ (lH _)
 ·cases ht
abbrev aSy:Cg:=aKS 
theorem aK0:CfOk prog aSy.c:=gk <| aH
def CA (n:Nat):Str:=[b8 ((n / 256%256:Nat):Int),b8 ((n%256:Nat):Int)]
def qT:List Str->Str
 | []=>[]
 | p :: r=>CA p.length++p++qT r
def Lw:Summ where
 T:=Str
 run:=λ
  | [.c (.s (.dat (.strs ss) n 1))]=>cond (Nat.beq n ss.length && Nat.ble ss.length 1048576 && Nat.ble (qT ss).length 1099511627776) (some (qT ss)) none
  | _=>none
 enc:=λ t=>.str t
def VR:FA Str:=Lw.run
def aBT:Summ where
 T:=Str
 run:=λ
  | [.c (.s (.pl (.int .i64 n)))]=>cond (decide (0 <= n /\ n < 4611686018427387904)) (some (CA n.toNat)) none
  | _=>none
 enc:=λ t=>.str t
def Ii:FA Str:=aBT.run
def VS:Summ where
 T:=Str
 run:=λ
  | [.c (.s (.pl (.agg (.ints .u8 a) 64)))]=>cond (Nat.beq a.length 64) (some (a.map b8)) none
  | _=>none
 enc:=λ t=>.str t
def aBU:FA Str:=VS.run
theorem Yl (x n:Nat) (h:n < 64) (hx:x < 9223372036854775808):eJ .i64 (x:Int) (n:Int)=((x / 2 ^ n:Nat):Int):=by
 unfold eJ;have:min ((n:Int).toNat) (IntKind.bits .i64)=n:=by
  simp [IntKind.bits]; omega
 rw [this,Int.fdiv_eq_ediv_of_nonneg _ (by exact_mod_cast oI _)]
 push_cast
 rfl
theorem bDU:CallOk prog 178 aBT:=by
 refine fO aK0 Tryz.func178 ?_;intro args t ht;unfold aBT at ht;simp only at ht;split at ht
 ·rename_i n;obtain ⟨h1,h2⟩:=bO ht;subst h2;have h1:=vA h1;obtain ⟨k,rfl⟩:=bZ h1.1;refine (aSr ..).trans ?_;rw [qH (by omega),show ((k:Int) / 256)=((k / 256:Nat):Int) by omega,bW (by omega) (by omega),qD,qD]; rfl
 ·cases ht
section
variable (T0:Type) (R0:FA T0) (aG:T0->List Int)
def aK1:Cg:=⟨⟨cV [(78,⟨R0,λ t=>AV.agg (.ints .u8 (aG t)) 64⟩)],[],cX⟩,[]⟩
theorem aSz (fu:Nat) (k:Int) (ss:List Str) (n:Nat):aS prog Tryz.f143 (aK1 T0 R0 aG) fu [.int .i64 k,.s (.dat (.strs ss) n 1)]=(R0 [.s (.dat (.strs ss) n 1)]).bind λ t=>bif decide ((0:Int) <= 0 /\ (0 <= if 64 < if 0 > k then 0 else k then 64 else if 0 > k then 0 else k) /\ (if 64 < if 0 > k then 0 else k then 64 else if 0 > k then 0 else k) <= 64) then some (AV.str (List.map b8 (List.take ((if 64 < if 0 > k then 0 else k then 64 else if 0 > k then 0 else k) - 0).toNat (List.drop 0 (aG t))))) else none:=by kernel_rfl
end
section
variable (T0:Type) (R0:FA T0) (T1:Type) (R1:FA T1) (aM:T1->Int)
def fI:Cg:=⟨⟨cV [(205,⟨R0,λ t=>AV.s (.dat (.ints .u64 (up kN)) (80) 1)⟩),(206,⟨R1,λ t=>AV.int .u64 (aM t)⟩)],[26,53],cX⟩,[(5,[2,3,4],[2,3,4]),(8,[2,3,4,5],[2,3]),(14,[2,3,6,7,8],[2,6]),(18,[2,3,6,7,8,9,10],[2,3,6,7,8,9]),(21,[2,3,6,7,8,9,10,11],[2,3,6,7,8,9,10]),(25,[2,3,6,7,8,9,12],[2,3,6,7,8,9]),(32,[2,3,6,7,8,9,15,16],[2,3,6,7,8,15]),(41,[2,3,6,7,8,15,22],[2,3,6,7,8]),(46,[2,6,23,24],[2,23])]⟩
def Jl (n3:Nat) (v4:Int) (aQ:List Int) (eM:Nat) (bC:List Int):St:={ tm:=[(2,.s (.ptr 0 0 64)),(3,.s (.own 1 n3 1)),(4,.int .u64 v4)],hp:=[(0,{ ty:=116,n:=64,row:=Row.t (.ints .u8 aQ) }),(1,{ ty:=5,n:=eM,row:=Row.t (.ints .u8 bC) })],nx:=2,sz:=327 }
def RK:Code:=cN (bN [1,1,1,1,0,2] (bB Tryz.f192))
def RL (fu:Nat):=mD prog (fI T0 R0 T1 R1 aM) fu [1,1,1,1,0,2] (bB Tryz.f192) (gI prog Tryz.f192)
abbrev aSA (fu:Nat) (n3:Nat) (v4:Int) (aQ:List Int) (eM:Nat) (bC:List Int):=eV prog (fI T0 R0 T1 R1 aM) fu RK (RL T0 R0 T1 R1 aM fu ) fu (some (Jl n3 v4 aQ eM bC))
theorem aSB (fu:Nat) (s:Str):aS prog Tryz.f192 (fI T0 R0 T1 R1 aM) fu [.str s]=bif decide (List.length s <= 1099511627776) then bif decide (List.length s+1 <= 1099511627776) then aSA T0 R0 T1 R1 aM fu (List.length s+1) (u64.wrap (u64.wrap (↑(List.length s):Int)*8)) [0,0,0,0,0,0,0,0,0,0,0,0,0,0,0,0,0,0,0,0,0,0,0,0,0,0,0,0,0,0,0,0,0,0,0,0,0,0,0,0,0,0,0,0,0,0,0,0,0,0,0,0,0,0,0,0,0,0,0,0,0,0,0,0] ((List.length s+1)*1) (List.map sE s++[128]) else none else none:=by kernel_rfl
def Oo (n3:Nat) (v4:Int) (aQ:List Int) (eM:Nat) (bC:List Int):St:={ tm:=[(2,.s (.ptr 0 0 64)),(3,.s (.own 1 n3 1)),(4,.int .u64 v4)],hp:=[(0,{ ty:=116,n:=64,row:=Row.t (.ints .u8 aQ) }),(1,{ ty:=5,n:=eM,row:=Row.t (.ints .u8 bC) })],nx:=2,sz:=327 }
theorem aBV {β:Type} (fu:Nat) (G:FG β) (H:FH β) (n3:Nat) (v4:Int) (aQ:List Int) (eM:Nat) (bC:List Int):fV prog (fI T0 R0 T1 R1 aM) fu RK G H (Jl n3 v4 aQ eM bC)=bif !decide ((n3:Int).tmod (128:Int)=120) then bif decide (n3+1 <= 1099511627776) then G (some (Jl (n3+1) v4 aQ ((n3+1)*1) (bC++[0]))) else none else H (Ex.exit 0) (some (Oo n3 v4 aQ eM bC)):=by kernel_rfl
def Jm (n3:Nat) (v4 v5:Int) (aQ:List Int) (eM:Nat) (bC:List Int):St:={ tm:=[(2,.s (.ptr 0 0 64)),(3,.s (.own 1 n3 1)),(4,.int .u64 v4),(5,.int .i64 v5)],hp:=[(0,{ ty:=116,n:=64,row:=Row.t (.ints .u8 aQ) }),(1,{ ty:=5,n:=eM,row:=Row.t (.ints .u8 bC) })],nx:=2,sz:=327 }
def RM:Code:=cN (bN [1,1,1,1,1,0,1,2] (bB Tryz.f192))
def RN (fu:Nat):=mD prog (fI T0 R0 T1 R1 aM) fu [1,1,1,1,1,0,1,2] (bB Tryz.f192) (gI prog Tryz.f192)
abbrev aBW (fu:Nat) (n3:Nat) (v4 v5:Int) (aQ:List Int) (eM:Nat) (bC:List Int):=eV prog (fI T0 R0 T1 R1 aM) fu RM (RN T0 R0 T1 R1 aM fu ) fu (some (Jm n3 v4 v5 aQ eM bC))
theorem aFc (fu:Nat) (n3:Nat) (v4:Int) (aQ:List Int) (eM:Nat) (bC:List Int):RL T0 R0 T1 R1 aM fu  (Ex.exit 0) (Oo n3 v4 aQ eM bC)=aBW T0 R0 T1 R1 aM fu n3 v4 7 aQ eM bC:=by kernel_rfl
def Oq (n3:Nat) (aQ:List Int) (eM:Nat) (bC:List Int):St:={ tm:=[(2,.s (.ptr 0 0 64)),(3,.s (.own 1 n3 1))],hp:=[(0,{ ty:=116,n:=64,row:=Row.t (.ints .u8 aQ) }),(1,{ ty:=5,n:=eM,row:=Row.t (.ints .u8 bC) })],nx:=2,sz:=327 }
theorem aBX {β:Type} (fu:Nat) (G:FG β) (H:FH β) (n3:Nat) (v4 v5:Int) (aQ:List Int) (eM:Nat) (bC:List Int):fV prog (fI T0 R0 T1 R1 aM) fu RM G H (Jm n3 v4 v5 aQ eM bC)=bif decide (0 <= v5) then bif decide (i64.wrap (8*v5) < 0) then none else bif decide (n3+1 <= 1099511627776) then G (some (Jm (n3+1) v4 (i64.wrap (v5 - 1)) aQ ((n3+1)*1) (bC++[u8.wrap (eJ .u64 v4 (i64.wrap (8*v5)))]))) else none else H (Ex.exit 2) (some (Oq n3 aQ eM bC)):=by kernel_rfl
def GG (n3 n6:Nat) (x7:List Int) (n7:Nat) (v8:Int) (aQ:List Int) (eM:Nat) (bC:List Int) (jV:Nat) (dE:List Int):St:={ tm:=[(2,.s (.ptr 0 0 64)),(3,.s (.own 1 n3 1)),(6,.s (.own 2 n6 1)),(7,.s (.dat (.ints .u64 x7) n7 1)),(8,.int .i64 v8)],hp:=[(0,{ ty:=116,n:=64,row:=Row.t (.ints .u8 aQ) }),(1,{ ty:=5,n:=eM,row:=Row.t (.ints .u8 bC) }),(2,{ ty:=25,n:=jV,row:=Row.t (.ints .u64 dE) })],nx:=3,sz:=327 }
def k6:Code:=cN (bN [1,1,1,1,1,1,1,1,0,1,2] (bB Tryz.f192))
def pZ (fu:Nat):=mD prog (fI T0 R0 T1 R1 aM) fu [1,1,1,1,1,1,1,1,0,1,2] (bB Tryz.f192) (gI prog Tryz.f192)
abbrev aBY (fu:Nat) (n3 n6:Nat) (x7:List Int) (n7:Nat) (v8:Int) (aQ:List Int) (eM:Nat) (bC:List Int) (jV:Nat) (dE:List Int):=eV prog (fI T0 R0 T1 R1 aM) fu k6 (pZ T0 R0 T1 R1 aM fu ) fu (some (GG n3 n6 x7 n7 v8 aQ eM bC jV dE))
theorem aFd (fu:Nat) (n3:Nat) (aQ:List Int) (eM:Nat) (bC:List Int):RN T0 R0 T1 R1 aM fu  (Ex.exit 2) (Oq n3 aQ eM bC)=(R0 []).bind λ t=>aBY T0 R0 T1 R1 aM fu n3 8 (up kN) 80 0 aQ eM bC 8 ([7640891576956012808]++([13503953896175478587]++([4354685564936845355]++([11912009170470909681]++([5840696475078001361]++([11170449401992604703]++([2270897969802886507]++[6620516959819538809]))))))):=by kernel_rfl
def GH (n3 n6:Nat) (x7:List Int) (n7:Nat) (v8:Int) (n9:Nat) (gR:Int) (aQ:List Int) (eM:Nat) (bC:List Int) (jV:Nat) (dE:List Int) (wZ:Nat) (gX:List Int):St:={ tm:=[(2,.s (.ptr 0 0 64)),(3,.s (.own 1 n3 1)),(6,.s (.own 2 n6 1)),(7,.s (.dat (.ints .u64 x7) n7 1)),(8,.int .i64 v8),(9,.s (.own 3 n9 1)),(10,.int .i64 gR)],hp:=[(0,{ ty:=116,n:=64,row:=Row.t (.ints .u8 aQ) }),(1,{ ty:=5,n:=eM,row:=Row.t (.ints .u8 bC) }),(2,{ ty:=25,n:=jV,row:=Row.t (.ints .u64 dE) }),(3,{ ty:=25,n:=wZ,row:=Row.t (.ints .u64 gX) })],nx:=4,sz:=327 }
def C5:Code:=cN (bN [1,1,1,1,1,1,1,1,0,1,2,6,1,0,2,1,0,1,2] (bB Tryz.f192))
def GI {β:Type} (fu:Nat) (G:FG β) (H:FH β):=mD prog (fI T0 R0 T1 R1 aM) fu [1,0,2,1,0,1,2] k6 (wD (fI T0 R0 T1 R1 aM) k6 G H)
abbrev aSC {β:Type} (fu:Nat) (G:FG β) (H:FH β) (n3 n6:Nat) (x7:List Int) (n7:Nat) (v8:Int) (n9:Nat) (gR:Int) (aQ:List Int) (eM:Nat) (bC:List Int) (jV:Nat) (dE:List Int) (wZ:Nat) (gX:List Int):=eV prog (fI T0 R0 T1 R1 aM) fu C5 (GI T0 R0 T1 R1 aM fu G H) fu (some (GH n3 n6 x7 n7 v8 n9 gR aQ eM bC jV dE wZ gX))
def Ot (n6:Nat) (aQ:List Int) (eM:Nat) (bC:List Int):St:={ tm:=[(2,.s (.ptr 0 0 64)),(6,.s (.own 1 n6 1))],hp:=[(0,{ ty:=116,n:=64,row:=Row.t (.ints .u8 aQ) }),(1,{ ty:=25,n:=eM,row:=Row.t (.ints .u64 bC) })],nx:=2,sz:=327 }
theorem aBZ {β:Type} (fu:Nat) (G:FG β) (H:FH β) (n3 n6:Nat) (x7:List Int) (n7:Nat) (v8:Int) (aQ:List Int) (eM:Nat) (bC:List Int) (jV:Nat) (dE:List Int):fV prog (fI T0 R0 T1 R1 aM) fu k6 G H (GG n3 n6 x7 n7 v8 aQ eM bC jV dE)=bif decide (v8 < (n3:Int)) then aSC T0 R0 T1 R1 aM fu G H n3 n6 x7 n7 v8 80 0 aQ eM bC jV dE 80 (List.replicate 80 0) else H (Ex.exit 4) (some (Ot n6 aQ jV dE)):=by kernel_rfl
def Jn (n3 n6:Nat) (x7:List Int) (n7:Nat) (v8:Int) (n9:Nat) (gR fN:Int) (aQ:List Int) (eM:Nat) (bC:List Int) (jV:Nat) (dE:List Int) (wZ:Nat) (gX:List Int):St:={ tm:=[(2,.s (.ptr 0 0 64)),(3,.s (.own 1 n3 1)),(6,.s (.own 2 n6 1)),(7,.s (.dat (.ints .u64 x7) n7 1)),(8,.int .i64 v8),(9,.s (.own 3 n9 1)),(10,.int .i64 gR),(11,.int .i64 fN)],hp:=[(0,{ ty:=116,n:=64,row:=Row.t (.ints .u8 aQ) }),(1,{ ty:=5,n:=eM,row:=Row.t (.ints .u8 bC) }),(2,{ ty:=25,n:=jV,row:=Row.t (.ints .u64 dE) }),(3,{ ty:=25,n:=wZ,row:=Row.t (.ints .u64 gX) })],nx:=4,sz:=327 }
def RO:Code:=cN (bN [1,1,1,1,1,1,1,1,0,1,2,6,1,0,2,1,0,1,2,6,1,0,2,1,2] (bB Tryz.f192))
def RQ {β:Type} (fu:Nat) (G:FG β) (H:FH β):=mD prog (fI T0 R0 T1 R1 aM) fu [1,0,2,1,2] C5 (wD (fI T0 R0 T1 R1 aM) C5 G H)
abbrev aSD {β:Type} (fu:Nat) (G:FG β) (H:FH β) (n3 n6:Nat) (x7:List Int) (n7:Nat) (v8:Int) (n9:Nat) (gR fN:Int) (aQ:List Int) (eM:Nat) (bC:List Int) (jV:Nat) (dE:List Int) (wZ:Nat) (gX:List Int):=eV prog (fI T0 R0 T1 R1 aM) fu RO (RQ T0 R0 T1 R1 aM fu G H) fu (some (Jn n3 n6 x7 n7 v8 n9 gR fN aQ eM bC jV dE wZ gX))
def Ou (n3 n6:Nat) (x7:List Int) (n7:Nat) (v8:Int) (n9:Nat) (aQ:List Int) (eM:Nat) (bC:List Int) (jV:Nat) (dE:List Int) (wZ:Nat) (gX:List Int):St:={ tm:=[(2,.s (.ptr 0 0 64)),(3,.s (.own 1 n3 1)),(6,.s (.own 2 n6 1)),(7,.s (.dat (.ints .u64 x7) n7 1)),(8,.int .i64 v8),(9,.s (.own 3 n9 1))],hp:=[(0,{ ty:=116,n:=64,row:=Row.t (.ints .u8 aQ) }),(1,{ ty:=5,n:=eM,row:=Row.t (.ints .u8 bC) }),(2,{ ty:=25,n:=jV,row:=Row.t (.ints .u64 dE) }),(3,{ ty:=25,n:=wZ,row:=Row.t (.ints .u64 gX) })],nx:=4,sz:=327 }
theorem aB0 {β:Type} (fu:Nat) (G:FG β) (H:FH β) (n3 n6:Nat) (x7:List Int) (n7:Nat) (v8:Int) (n9:Nat) (gR:Int) (aQ:List Int) (eM:Nat) (bC:List Int) (jV:Nat) (dE:List Int) (wZ:Nat) (gX:List Int):fV prog (fI T0 R0 T1 R1 aM) fu C5 G H (GH n3 n6 x7 n7 v8 n9 gR aQ eM bC jV dE wZ gX)=bif decide (gR < 16) then aSD T0 R0 T1 R1 aM fu G H n3 n6 x7 n7 v8 n9 gR 0 aQ eM bC jV dE wZ gX else H (Ex.exit 6) (some (Ou n3 n6 x7 n7 v8 n9 aQ eM bC jV dE wZ gX)):=by kernel_rfl
def Jo (n6:Nat) (Wn:Int) (aQ:List Int) (eM:Nat) (bC dE:List Int):St:={ tm:=[(2,.s (.ptr 0 0 64)),(6,.s (.own 1 n6 1)),(23,.s (.ptr 2 0 64)),(24,.int .i64 Wn)],hp:=[(0,{ ty:=116,n:=64,row:=Row.t (.ints .u8 aQ) }),(1,{ ty:=25,n:=eM,row:=Row.t (.ints .u64 bC) }),(2,{ ty:=116,n:=64,row:=Row.t (.ints .u8 dE) })],nx:=3,sz:=327 }
def RR:Code:=cN (bN [1,1,1,1,1,1,1,1,1,1,0,1,2] (bB Tryz.f192))
def RS (fu:Nat):=mD prog (fI T0 R0 T1 R1 aM) fu [1,1,1,1,1,1,1,1,1,1,0,1,2] (bB Tryz.f192) (gI prog Tryz.f192)
abbrev aB1 (fu:Nat) (n6:Nat) (Wn:Int) (aQ:List Int) (eM:Nat) (bC dE:List Int):=eV prog (fI T0 R0 T1 R1 aM) fu RR (RS T0 R0 T1 R1 aM fu ) fu (some (Jo n6 Wn aQ eM bC dE))
theorem aFe (fu:Nat) (n6:Nat) (aQ:List Int) (eM:Nat) (bC:List Int):pZ T0 R0 T1 R1 aM fu  (Ex.exit 4) (Ot n6 aQ eM bC)=aB1 T0 R0 T1 R1 aM fu n6 0 aQ eM bC [0,0,0,0,0,0,0,0,0,0,0,0,0,0,0,0,0,0,0,0,0,0,0,0,0,0,0,0,0,0,0,0,0,0,0,0,0,0,0,0,0,0,0,0,0,0,0,0,0,0,0,0,0,0,0,0,0,0,0,0,0,0,0,0]:=by kernel_rfl
def Ov (n3 n6:Nat) (x7:List Int) (n7:Nat) (v8:Int) (n9:Nat) (gR:Int) (aQ:List Int) (eM:Nat) (bC:List Int) (jV:Nat) (dE:List Int) (wZ:Nat) (gX:List Int):St:={ tm:=[(2,.s (.ptr 0 0 64)),(3,.s (.own 1 n3 1)),(6,.s (.own 2 n6 1)),(7,.s (.dat (.ints .u64 x7) n7 1)),(8,.int .i64 v8),(9,.s (.own 3 n9 1)),(10,.int .i64 gR)],hp:=[(0,{ ty:=116,n:=64,row:=Row.t (.ints .u8 aQ) }),(1,{ ty:=5,n:=eM,row:=Row.t (.ints .u8 bC) }),(2,{ ty:=25,n:=jV,row:=Row.t (.ints .u64 dE) }),(3,{ ty:=25,n:=wZ,row:=Row.t (.ints .u64 gX) })],nx:=4,sz:=327 }
theorem aB2 {β:Type} (fu:Nat) (G:FG β) (H:FH β) (n3 n6:Nat) (x7:List Int) (n7:Nat) (v8:Int) (n9:Nat) (gR fN:Int) (aQ:List Int) (eM:Nat) (bC:List Int) (jV:Nat) (dE:List Int) (wZ:Nat) (gX:List Int):fV prog (fI T0 R0 T1 R1 aM) fu RO G H (Jn n3 n6 x7 n7 v8 n9 gR fN aQ eM bC jV dE wZ gX)=bif decide (fN < 8) then bif decide (0 <= gR /\ gR < (n9:Int)) then bif decide (0 <= i64.wrap (i64.wrap (v8+i64.wrap (8*gR))+fN) /\ i64.wrap (i64.wrap (v8+i64.wrap (8*gR))+fN) < (n3:Int)) then bif decide (0 <= gR /\ gR < (n9:Int)) then G (some (Jn n3 n6 x7 n7 v8 n9 gR (i64.wrap (fN+1)) aQ eM bC jV dE wZ (gX.set gR.toNat (u64.wrap (u64.wrap (gX.getD gR.toNat 0*256)+u64.wrap (bC.getD (i64.wrap (i64.wrap (v8+i64.wrap (8*gR))+fN)).toNat 0)))))) else none else none else none else H (Ex.exit 8) (some (Ov n3 n6 x7 n7 v8 n9 gR aQ eM bC jV dE wZ gX)):=by kernel_rfl
def Jp (n3 n6:Nat) (x7:List Int) (n7:Nat) (v8:Int) (n9:Nat) (jH:Int) (aQ:List Int) (eM:Nat) (bC:List Int) (jV:Nat) (dE:List Int) (wZ:Nat) (gX:List Int):St:={ tm:=[(2,.s (.ptr 0 0 64)),(3,.s (.own 1 n3 1)),(6,.s (.own 2 n6 1)),(7,.s (.dat (.ints .u64 x7) n7 1)),(8,.int .i64 v8),(9,.s (.own 3 n9 1)),(12,.int .i64 jH)],hp:=[(0,{ ty:=116,n:=64,row:=Row.t (.ints .u8 aQ) }),(1,{ ty:=5,n:=eM,row:=Row.t (.ints .u8 bC) }),(2,{ ty:=25,n:=jV,row:=Row.t (.ints .u64 dE) }),(3,{ ty:=25,n:=wZ,row:=Row.t (.ints .u64 gX) })],nx:=4,sz:=327 }
def RT:Code:=cN (bN [1,1,1,1,1,1,1,1,0,1,2,6,1,0,2,1,1,0,1,2] (bB Tryz.f192))
def RU {β:Type} (fu:Nat) (G:FG β) (H:FH β):=mD prog (fI T0 R0 T1 R1 aM) fu [1,0,2,1,1,0,1,2] k6 (wD (fI T0 R0 T1 R1 aM) k6 G H)
abbrev aB3 {β:Type} (fu:Nat) (G:FG β) (H:FH β) (n3 n6:Nat) (x7:List Int) (n7:Nat) (v8:Int) (n9:Nat) (jH:Int) (aQ:List Int) (eM:Nat) (bC:List Int) (jV:Nat) (dE:List Int) (wZ:Nat) (gX:List Int):=eV prog (fI T0 R0 T1 R1 aM) fu RT (RU T0 R0 T1 R1 aM fu G H) fu (some (Jp n3 n6 x7 n7 v8 n9 jH aQ eM bC jV dE wZ gX))
theorem aFf {β:Type} (fu:Nat) (G:FG β) (H:FH β) (n3 n6:Nat) (x7:List Int) (n7:Nat) (v8:Int) (n9:Nat) (aQ:List Int) (eM:Nat) (bC:List Int) (jV:Nat) (dE:List Int) (wZ:Nat) (gX:List Int):GI T0 R0 T1 R1 aM fu G H (Ex.exit 6) (Ou n3 n6 x7 n7 v8 n9 aQ eM bC jV dE wZ gX)=aB3 T0 R0 T1 R1 aM fu G H n3 n6 x7 n7 v8 n9 16 aQ eM bC jV dE wZ gX:=by kernel_rfl
def Lx (aQ bC:List Int):St:={ tm:=[(2,.s (.ptr 0 0 64)),(23,.s (.ptr 1 0 64))],hp:=[(0,{ ty:=116,n:=64,row:=Row.t (.ints .u8 aQ) }),(1,{ ty:=116,n:=64,row:=Row.t (.ints .u8 bC) })],nx:=2,sz:=327 }
theorem aB4 {β:Type} (fu:Nat) (G:FG β) (H:FH β) (n6:Nat) (Wn:Int) (aQ:List Int) (eM:Nat) (bC dE:List Int):fV prog (fI T0 R0 T1 R1 aM) fu RR G H (Jo n6 Wn aQ eM bC dE)=bif decide (Wn < 64) then bif decide (0 <= i64.wrap (Wn.tdiv 8) /\ i64.wrap (Wn.tdiv 8) < (n6:Int)) then bif decide (i64.wrap (56 - i64.wrap (8*Wn.tmod 8)) < 0) then none else bif decide (0 <= Wn /\ Wn < 64) then G (some (Jo n6 (i64.wrap (Wn+1)) aQ eM bC (dE.set (0+Wn.toNat) (u8.wrap (eJ .u64 (bC.getD (i64.wrap (Wn.tdiv 8)).toNat 0) (i64.wrap (56 - i64.wrap (8*Wn.tmod 8)))))))) else none else none else H (Ex.exit 16) (some (Lx aQ dE)):=by kernel_rfl
theorem aFg {β:Type} (fu:Nat) (G:FG β) (H:FH β) (n3 n6:Nat) (x7:List Int) (n7:Nat) (v8:Int) (n9:Nat) (gR:Int) (aQ:List Int) (eM:Nat) (bC:List Int) (jV:Nat) (dE:List Int) (wZ:Nat) (gX:List Int):RQ T0 R0 T1 R1 aM fu G H (Ex.exit 8) (Ov n3 n6 x7 n7 v8 n9 gR aQ eM bC jV dE wZ gX)=G (some (GH n3 n6 x7 n7 v8 n9 (i64.wrap (gR+1)) aQ eM bC jV dE wZ gX)):=by kernel_rfl
def Ly (n3 n6:Nat) (x7:List Int) (n7:Nat) (v8:Int) (n9:Nat) (aQ:List Int) (eM:Nat) (bC:List Int) (jV:Nat) (dE:List Int) (wZ:Nat) (gX:List Int):St:={ tm:=[(2,.s (.ptr 0 0 64)),(3,.s (.own 1 n3 1)),(6,.s (.own 2 n6 1)),(7,.s (.dat (.ints .u64 x7) n7 1)),(8,.int .i64 v8),(9,.s (.own 3 n9 1))],hp:=[(0,{ ty:=116,n:=64,row:=Row.t (.ints .u8 aQ) }),(1,{ ty:=5,n:=eM,row:=Row.t (.ints .u8 bC) }),(2,{ ty:=25,n:=jV,row:=Row.t (.ints .u64 dE) }),(3,{ ty:=25,n:=wZ,row:=Row.t (.ints .u64 gX) })],nx:=4,sz:=327 }
theorem aB5 {β:Type} (fu:Nat) (G:FG β) (H:FH β) (n3 n6:Nat) (x7:List Int) (n7:Nat) (v8:Int) (n9:Nat) (jH:Int) (aQ:List Int) (eM:Nat) (bC:List Int) (jV:Nat) (dE:List Int) (wZ:Nat) (gX:List Int):fV prog (fI T0 R0 T1 R1 aM) fu RT G H (Jp n3 n6 x7 n7 v8 n9 jH aQ eM bC jV dE wZ gX)=bif decide (jH < 80) then bif decide (0 <= i64.wrap (jH - 15) /\ i64.wrap (jH - 15) < (n9:Int)) then (R1 [.int .u64 (gX.getD (i64.wrap (jH - 15)).toNat 0),.int .i64 1]).bind λ t=>bif decide (0 <= i64.wrap (jH - 15) /\ i64.wrap (jH - 15) < (n9:Int)) then (R1 [.int .u64 (gX.getD (i64.wrap (jH - 15)).toNat 0),.int .i64 8]).bind λ bY=>bif decide (0 <= i64.wrap (jH - 15) /\ i64.wrap (jH - 15) < (n9:Int)) then bif decide (0 <= i64.wrap (jH - 2) /\ i64.wrap (jH - 2) < (n9:Int)) then (R1 [.int .u64 (gX.getD (i64.wrap (jH - 2)).toNat 0),.int .i64 19]).bind λ cJ=>bif decide (0 <= i64.wrap (jH - 2) /\ i64.wrap (jH - 2) < (n9:Int)) then (R1 [.int .u64 (gX.getD (i64.wrap (jH - 2)).toNat 0),.int .i64 61]).bind λ fF=>bif decide (0 <= i64.wrap (jH - 2) /\ i64.wrap (jH - 2) < (n9:Int)) then bif decide (0 <= i64.wrap (jH - 16) /\ i64.wrap (jH - 16) < (n9:Int)) then bif decide (0 <= i64.wrap (jH - 7) /\ i64.wrap (jH - 7) < (n9:Int)) then bif decide (0 <= jH /\ jH < (n9:Int)) then G (some (Jp n3 n6 x7 n7 v8 n9 (i64.wrap (jH+1)) aQ eM bC jV dE wZ (gX.set jH.toNat (u64.wrap (u64.wrap (u64.wrap (gX.getD (i64.wrap (jH - 16)).toNat 0+gG .u64 (gG .u64 (aM t) (aM bY)) (eJ .u64 (gX.getD (i64.wrap (jH - 15)).toNat 0) 7))+gX.getD (i64.wrap (jH - 7)).toNat 0)+gG .u64 (gG .u64 (aM cJ) (aM fF)) (eJ .u64 (gX.getD (i64.wrap (jH - 2)).toNat 0) 6)))))) else none else none else none else none else none else none else none else none else none else H (Ex.exit 10) (some (Ly n3 n6 x7 n7 v8 n9 aQ eM bC jV dE wZ gX)):=by kernel_rfl
theorem Ym (fu:Nat) (aQ bC:List Int):RS T0 R0 T1 R1 aM fu  (Ex.exit 16) (Lx aQ bC)=some (AV.agg (.ints .u8 bC) 64):=by kernel_rfl
def Jq (n3 n6:Nat) (x7:List Int) (n7:Nat) (v8:Int) (n9:Nat) (x15:List Int) (n15:Nat) (Dn:Int) (aQ:List Int) (eM:Nat) (bC:List Int) (jV:Nat) (dE:List Int) (wZ:Nat) (gX:List Int):St:={ tm:=[(2,.s (.ptr 0 0 64)),(3,.s (.own 1 n3 1)),(6,.s (.own 2 n6 1)),(7,.s (.dat (.ints .u64 x7) n7 1)),(8,.int .i64 v8),(9,.s (.own 3 n9 1)),(15,.s (.dat (.ints .u64 x15) n15 1)),(16,.int .i64 Dn)],hp:=[(0,{ ty:=116,n:=64,row:=Row.t (.ints .u8 aQ) }),(1,{ ty:=5,n:=eM,row:=Row.t (.ints .u8 bC) }),(2,{ ty:=25,n:=jV,row:=Row.t (.ints .u64 dE) }),(3,{ ty:=25,n:=wZ,row:=Row.t (.ints .u64 gX) })],nx:=4,sz:=327 }
def RV:Code:=cN (bN [1,1,1,1,1,1,1,1,0,1,2,6,1,0,2,1,1,1,1,0,1,2] (bB Tryz.f192))
def RW {β:Type} (fu:Nat) (G:FG β) (H:FH β):=mD prog (fI T0 R0 T1 R1 aM) fu [1,0,2,1,1,1,1,0,1,2] k6 (wD (fI T0 R0 T1 R1 aM) k6 G H)
abbrev aB6 {β:Type} (fu:Nat) (G:FG β) (H:FH β) (n3 n6:Nat) (x7:List Int) (n7:Nat) (v8:Int) (n9:Nat) (x15:List Int) (n15:Nat) (Dn:Int) (aQ:List Int) (eM:Nat) (bC:List Int) (jV:Nat) (dE:List Int) (wZ:Nat) (gX:List Int):=eV prog (fI T0 R0 T1 R1 aM) fu RV (RW T0 R0 T1 R1 aM fu G H) fu (some (Jq n3 n6 x7 n7 v8 n9 x15 n15 Dn aQ eM bC jV dE wZ gX))
theorem Yn {β:Type} (fu:Nat) (G:FG β) (H:FH β) (n3 n6:Nat) (x7:List Int) (n7:Nat) (v8:Int) (n9:Nat) (aQ:List Int) (eM:Nat) (bC:List Int) (jV:Nat) (dE:List Int) (wZ:Nat) (gX:List Int):RU T0 R0 T1 R1 aM fu G H (Ex.exit 10) (Ly n3 n6 x7 n7 v8 n9 aQ eM bC jV dE wZ gX)=bif decide ((0:Int) <= 0 /\ 0 < (n6:Int)) then bif decide ((0:Int) <= 1 /\ 1 < (n6:Int)) then bif decide ((0:Int) <= 2 /\ 2 < (n6:Int)) then bif decide ((0:Int) <= 3 /\ 3 < (n6:Int)) then bif decide ((0:Int) <= 4 /\ 4 < (n6:Int)) then bif decide ((0:Int) <= 5 /\ 5 < (n6:Int)) then bif decide ((0:Int) <= 6 /\ 6 < (n6:Int)) then bif decide ((0:Int) <= 7 /\ 7 < (n6:Int)) then aB6 T0 R0 T1 R1 aM fu G H n3 n6 x7 n7 v8 n9 ([dE.getD 0 0]++([dE.getD 1 0]++([dE.getD 2 0]++([dE.getD 3 0]++([dE.getD 4 0]++([dE.getD 5 0]++([dE.getD 6 0]++[dE.getD 7 0]))))))) 8 0 aQ eM bC jV dE wZ gX else none else none else none else none else none else none else none else none:=by kernel_rfl
def Lz (n3 n6:Nat) (x7:List Int) (n7:Nat) (v8:Int) (x15:List Int) (n15:Nat) (aQ:List Int) (eM:Nat) (bC:List Int) (jV:Nat) (dE:List Int):St:={ tm:=[(2,.s (.ptr 0 0 64)),(3,.s (.own 1 n3 1)),(6,.s (.own 2 n6 1)),(7,.s (.dat (.ints .u64 x7) n7 1)),(8,.int .i64 v8),(15,.s (.dat (.ints .u64 x15) n15 1))],hp:=[(0,{ ty:=116,n:=64,row:=Row.t (.ints .u8 aQ) }),(1,{ ty:=5,n:=eM,row:=Row.t (.ints .u8 bC) }),(2,{ ty:=25,n:=jV,row:=Row.t (.ints .u64 dE) })],nx:=3,sz:=327 }
theorem aB7 {β:Type} (fu:Nat) (G:FG β) (H:FH β) (n3 n6:Nat) (x7:List Int) (n7:Nat) (v8:Int) (n9:Nat) (x15:List Int) (n15:Nat) (Dn:Int) (aQ:List Int) (eM:Nat) (bC:List Int) (jV:Nat) (dE:List Int) (wZ:Nat) (gX:List Int):fV prog (fI T0 R0 T1 R1 aM) fu RV G H (Jq n3 n6 x7 n7 v8 n9 x15 n15 Dn aQ eM bC jV dE wZ gX)=bif decide (Dn < 80) then bif decide ((0:Int) <= 4 /\ 4 < (n15:Int)) then (R1 [.int .u64 (x15.getD 4 0),.int .i64 14]).bind λ t=>bif decide ((0:Int) <= 4 /\ 4 < (n15:Int)) then (R1 [.int .u64 (x15.getD 4 0),.int .i64 18]).bind λ bY=>bif decide ((0:Int) <= 4 /\ 4 < (n15:Int)) then (R1 [.int .u64 (x15.getD 4 0),.int .i64 41]).bind λ cJ=>bif decide ((0:Int) <= 4 /\ 4 < (n15:Int)) then bif decide ((0:Int) <= 5 /\ 5 < (n15:Int)) then bif decide ((0:Int) <= 4 /\ 4 < (n15:Int)) then bif decide ((0:Int) <= 6 /\ 6 < (n15:Int)) then bif decide ((0:Int) <= 7 /\ 7 < (n15:Int)) then bif decide (0 <= Dn /\ Dn < (n7:Int)) then bif decide (0 <= Dn /\ Dn < (n9:Int)) then bif decide ((0:Int) <= 0 /\ 0 < (n15:Int)) then (R1 [.int .u64 (x15.getD 0 0),.int .i64 28]).bind λ fF=>bif decide ((0:Int) <= 0 /\ 0 < (n15:Int)) then (R1 [.int .u64 (x15.getD 0 0),.int .i64 34]).bind λ gA=>bif decide ((0:Int) <= 0 /\ 0 < (n15:Int)) then (R1 [.int .u64 (x15.getD 0 0),.int .i64 39]).bind λ gC=>bif decide ((0:Int) <= 0 /\ 0 < (n15:Int)) then bif decide ((0:Int) <= 1 /\ 1 < (n15:Int)) then bif decide ((0:Int) <= 0 /\ 0 < (n15:Int)) then bif decide ((0:Int) <= 2 /\ 2 < (n15:Int)) then bif decide ((0:Int) <= 1 /\ 1 < (n15:Int)) then bif decide ((0:Int) <= 2 /\ 2 < (n15:Int)) then bif decide ((0:Int) <= 0 /\ 0 < (n15:Int)) then bif decide ((0:Int) <= 1 /\ 1 < (n15:Int)) then bif decide ((0:Int) <= 2 /\ 2 < (n15:Int)) then bif decide ((0:Int) <= 3 /\ 3 < (n15:Int)) then bif decide ((0:Int) <= 4 /\ 4 < (n15:Int)) then bif decide ((0:Int) <= 5 /\ 5 < (n15:Int)) then bif decide ((0:Int) <= 6 /\ 6 < (n15:Int)) then G (some (Jq n3 n6 x7 n7 v8 n9 ([u64.wrap (u64.wrap (u64.wrap (u64.wrap (u64.wrap (x15.getD 7 0+gG .u64 (gG .u64 (aM t) (aM bY)) (aM cJ))+gG .u64 (fH .u64 (x15.getD 4 0) (x15.getD 5 0)) (fH .u64 (u64.wrap (18446744073709551615 - x15.getD 4 0)) (x15.getD 6 0)))+x7.getD Dn.toNat 0)+gX.getD Dn.toNat 0)+u64.wrap (gG .u64 (gG .u64 (aM fF) (aM gA)) (aM gC)+gG .u64 (gG .u64 (fH .u64 (x15.getD 0 0) (x15.getD 1 0)) (fH .u64 (x15.getD 0 0) (x15.getD 2 0))) (fH .u64 (x15.getD 1 0) (x15.getD 2 0))))]++([x15.getD 0 0]++([x15.getD 1 0]++([x15.getD 2 0]++([u64.wrap (x15.getD 3 0+u64.wrap (u64.wrap (u64.wrap (u64.wrap (x15.getD 7 0+gG .u64 (gG .u64 (aM t) (aM bY)) (aM cJ))+gG .u64 (fH .u64 (x15.getD 4 0) (x15.getD 5 0)) (fH .u64 (u64.wrap (18446744073709551615 - x15.getD 4 0)) (x15.getD 6 0)))+x7.getD Dn.toNat 0)+gX.getD Dn.toNat 0))]++([x15.getD 4 0]++([x15.getD 5 0]++[x15.getD 6 0]))))))) 8 (i64.wrap (Dn+1)) aQ eM bC jV dE wZ gX)) else none else none else none else none else none else none else none else none else none else none else none else none else none else none else none else none else none else none else none else none else none else none else none else none else none else none else H (Ex.exit 12) (some (Lz n3 n6 x7 n7 v8 x15 n15 aQ eM bC jV dE)):=by kernel_rfl
def Jr (n3 n6:Nat) (x7:List Int) (n7:Nat) (v8:Int) (x15:List Int) (n15:Nat) (Ww:Int) (aQ:List Int) (eM:Nat) (bC:List Int) (jV:Nat) (dE:List Int):St:={ tm:=[(2,.s (.ptr 0 0 64)),(3,.s (.own 1 n3 1)),(6,.s (.own 2 n6 1)),(7,.s (.dat (.ints .u64 x7) n7 1)),(8,.int .i64 v8),(15,.s (.dat (.ints .u64 x15) n15 1)),(22,.int .i64 Ww)],hp:=[(0,{ ty:=116,n:=64,row:=Row.t (.ints .u8 aQ) }),(1,{ ty:=5,n:=eM,row:=Row.t (.ints .u8 bC) }),(2,{ ty:=25,n:=jV,row:=Row.t (.ints .u64 dE) })],nx:=3,sz:=327 }
def RX:Code:=cN (bN [1,1,1,1,1,1,1,1,0,1,2,6,1,0,2,1,1,1,1,1,1,2] (bB Tryz.f192))
def RY {β:Type} (fu:Nat) (G:FG β) (H:FH β):=mD prog (fI T0 R0 T1 R1 aM) fu [1,0,2,1,1,1,1,1,1,2] k6 (wD (fI T0 R0 T1 R1 aM) k6 G H)
abbrev aB8 {β:Type} (fu:Nat) (G:FG β) (H:FH β) (n3 n6:Nat) (x7:List Int) (n7:Nat) (v8:Int) (x15:List Int) (n15:Nat) (Ww:Int) (aQ:List Int) (eM:Nat) (bC:List Int) (jV:Nat) (dE:List Int):=eV prog (fI T0 R0 T1 R1 aM) fu RX (RY T0 R0 T1 R1 aM fu G H) fu (some (Jr n3 n6 x7 n7 v8 x15 n15 Ww aQ eM bC jV dE))
theorem Yo {β:Type} (fu:Nat) (G:FG β) (H:FH β) (n3 n6:Nat) (x7:List Int) (n7:Nat) (v8:Int) (x15:List Int) (n15:Nat) (aQ:List Int) (eM:Nat) (bC:List Int) (jV:Nat) (dE:List Int):RW T0 R0 T1 R1 aM fu G H (Ex.exit 12) (Lz n3 n6 x7 n7 v8 x15 n15 aQ eM bC jV dE)=aB8 T0 R0 T1 R1 aM fu G H n3 n6 x7 n7 v8 x15 n15 0 aQ eM bC jV dE:=by kernel_rfl
def L4 (n3 n6:Nat) (x7:List Int) (n7:Nat) (v8:Int) (aQ:List Int) (eM:Nat) (bC:List Int) (jV:Nat) (dE:List Int):St:={ tm:=[(2,.s (.ptr 0 0 64)),(3,.s (.own 1 n3 1)),(6,.s (.own 2 n6 1)),(7,.s (.dat (.ints .u64 x7) n7 1)),(8,.int .i64 v8)],hp:=[(0,{ ty:=116,n:=64,row:=Row.t (.ints .u8 aQ) }),(1,{ ty:=5,n:=eM,row:=Row.t (.ints .u8 bC) }),(2,{ ty:=25,n:=jV,row:=Row.t (.ints .u64 dE) })],nx:=3,sz:=327 }
theorem aB9 {β:Type} (fu:Nat) (G:FG β) (H:FH β) (n3 n6:Nat) (x7:List Int) (n7:Nat) (v8:Int) (x15:List Int) (n15:Nat) (Ww:Int) (aQ:List Int) (eM:Nat) (bC:List Int) (jV:Nat) (dE:List Int):fV prog (fI T0 R0 T1 R1 aM) fu RX G H (Jr n3 n6 x7 n7 v8 x15 n15 Ww aQ eM bC jV dE)=bif decide (Ww < 8) then bif decide (0 <= Ww /\ Ww < (n6:Int)) then bif decide (0 <= Ww /\ Ww < (n15:Int)) then bif decide (0 <= Ww /\ Ww < (n6:Int)) then G (some (Jr n3 n6 x7 n7 v8 x15 n15 (i64.wrap (Ww+1)) aQ eM bC jV (dE.set Ww.toNat (u64.wrap (dE.getD Ww.toNat 0+x15.getD Ww.toNat 0))))) else none else none else none else H (Ex.exit 14) (some (L4 n3 n6 x7 n7 v8 aQ eM bC jV dE)):=by kernel_rfl
theorem Yp {β:Type} (fu:Nat) (G:FG β) (H:FH β) (n3 n6:Nat) (x7:List Int) (n7:Nat) (v8:Int) (aQ:List Int) (eM:Nat) (bC:List Int) (jV:Nat) (dE:List Int):RY T0 R0 T1 R1 aM fu G H (Ex.exit 14) (L4 n3 n6 x7 n7 v8 aQ eM bC jV dE)=G (some (GG n3 n6 x7 n7 (i64.wrap (v8+128)) aQ eM bC jV dE)):=by kernel_rfl
end
abbrev aCa:Cg:=Lq 
theorem aK2:CfOk prog aCa.c:=gk <| aH
abbrev aCb:Cg:=Lr 
theorem aK3:CfOk prog aCb.c:=gk <| aH
theorem aFh:∀ (l:List Str) (p:Str),qT (l++[p])=qT l++(CA p.length++p):=by
 intro l
 induction l with
 | nil=>intro p; simp [qT]
 | cons a r ih=>intro p; simp only [Cc,qT,ih,iO]
theorem aK4:∀ (l m:List Str),qT (l++m)=qT l++qT m:=by
 intro l
 induction l with
 | nil=>intro m; rfl
 | cons a r ih=>intro m; simp only [Cc,qT,ih,iO]
theorem L6 (ss:List Str) (i:Nat) (h:i < ss.length):ss.take (i+1)=ss.take i++[ss.getD i []]:=by
 rw [x9,jZ h,jM,jZ h]; rfl
theorem aSE (ss:List Str) (h2:ss.length <= 1048576) (h3:(qT ss).length <= 1099511627776) (fu:Nat):∀ (d n i:Nat),i+d=ss.length->d < n ->
  eV prog aCb fu RF (RG fu) n (some (Ji (qT (ss.take i)) ss ss.length (ss.length:Int) (i:Int)))=some (.str (qT ss)):=by
 intro d
 induction d with
 | zero=>
  intro n i hi hn;obtain ⟨n,rfl⟩:=aP (by omega:n ≠ 0);have e:i=ss.length:=by omega
  rw [aF,aBR,aJ (by omega),aE,aR,aE9,e,Ar]
 | succ d ih=>
  intro n i hi hn;obtain ⟨n,rfl⟩:=aP (by omega:n ≠ 0);have h:=ih n (i+1) (by omega) (by omega);have e:=L6 ss i (by omega);have hl:(qT (ss.take (i+1))).length <= (qT ss).length:=by
   have:=aK4 (ss.take (i+1)) (ss.drop (i+1));rw [DM] at this;rw [this,cD]; omega
  rw [e,aFh] at h hl;have hp:(ss.getD i []).length+2 <= 1099511627776:=by
   rw [cD,cD] at hl;have:(CA (ss.getD i []).length).length=2:=rfl;omega
  have hpre:List.map b8 ([u8.wrap (eJ i64 (((ss.getD i []).length:Nat):Int) (8:Int))]++[u8.wrap (((ss.getD i []).length:Nat):Int)])=CA (ss.getD i []).length:=by
   rw [show (8:Int)=((8:Nat):Int) from rfl,Yl _ _ (by decide) (by omega),qD,qD]; rfl
  rw [aF,aBR,aD (by omega),aB,aD (by omega),aB,bD,aD (by omega),aB,hpre,aD (by rw [cD] at hl; omega),aB,bW (by omega) (by omega)];exact h
theorem Yq:CallOk prog 152 Lw:=by
 refine aZ (fu:=λ args=>match args with | [.c (.s (.dat (.strs ss) n 1))]=>ss.length+1 | _=>0) aK3 Tryz.func152 ?_;intro args t ht;unfold Lw at ht;simp only at ht;split at ht
 ·rename_i ss n;obtain ⟨h1,h2⟩:=bO ht;subst h2;simp only [aW,dJ] at h1;have e:=aT h1.1.1;subst e;exact (aSt ..).trans (aSE ss h1.1.2 h1.2 _ ss.length _ 0 (by omega) (lH _))
 ·cases ht
theorem bDV (s:List Int) (hs:s.length=64) (i:Nat) (hi:i < 64):(s.take i++List.replicate (64 - i) 0).set i (s.getD i 0)=s.take (i+1)++List.replicate (64 - (i+1)) 0:=by
 have e:s.take (i+1)=s.take i++[s.getD i 0]:=by
  rw [x9,jZ (by omega),jM,jZ (by omega)]; rfl
 have hl:(s.take i).length=i:=by rw [dH]; omega
 rw [e,Aq _ _ (by rw [hl]; omega),hl,iL,show 64 - i=64 - (i+1)+1 by omega,x8,u5,iO]; rfl
theorem aSF (s:List Int) (hs:s.length=64) (fu:Nat):∀ (d n i:Nat),i+d=64->d < n ->
  eV prog aCa fu RD (RE fu) n (some (Jh 64 (i:Int) s 64 (s.take i++List.replicate (64 - i) 0)))=some (.str (s.map b8)):=by
 intro d
 induction d with
 | zero=>
  intro n i hi hn;obtain ⟨n,rfl⟩:=aP (by omega:n ≠ 0);have:i=64:=by omega
  subst this;rw [aF,aBQ,aJ (by decide),aE,aR,aE8,iL,sJ,jC,d9 (by omega)]
 | succ d ih=>
  intro n i hi hn;obtain ⟨n,rfl⟩:=aP (by omega:n ≠ 0);have h:=ih n (i+1) (by omega) (by omega);rw [aF,aBQ,aD (by omega),aB,aD (by omega),aB,aD (by omega),aB,bD,bT,bDV s hs i (by omega),bW (by omega) (by omega)];exact h
theorem aSG:CallOk prog 191 VS:=by
 refine aZ (fu:=λ _=>65) aK2 Tryz.func191 ?_;intro args t ht;unfold VS at ht;simp only at ht;split at ht
 ·rename_i s;obtain ⟨h1,h2⟩:=bO ht;subst h2;have h1:=aT h1;exact (aSq ..).trans (aSF s h1 65 64 65 0 (by omega) (by decide))
 ·cases ht
abbrev aSH:Cg:=aK1 (List Nat) SI (λ t=>up t)
theorem aK5:CfOk prog aSH.c:=gk <| aA EZ <| aH
def Yr (k:Int):Nat:=if 64 < k then 64 else k.toNat
def RZ (k:Int) (t:Str):Str:=((up (Gh t)).take (Yr k)).map b8
def Ys:Summ where
 T:=Str
 run:=λ
  | [.c (.s (.pl (.int .i64 k))),.c (.s (.dat (.strs ss) n 1))]=>cond (nZ ss n) (some (RZ k (Lib.join ss []))) none
  | _=>none
 enc:=λ t=>.str t
def aK6:FA Str:=Ys.run
theorem xP {ss:List Str} {n:Nat} (h:nZ ss n=true):SI [.s (.dat (.strs ss) n 1)]=some (Gh (Lib.join ss [])):=by
 show cond (nZ ss n) (some (Gh (Lib.join ss []))) none=_;rw [h]; rfl
theorem aK7:CallOk prog 143 Ys:=by
 refine fO aK5 Tryz.func143 ?_;intro args t ht;unfold Ys at ht;simp only at ht;split at ht
 ·rename_i k ss n;obtain ⟨h1,h2⟩:=bO ht;subst h2;refine (aSz ..).trans ?_;rw [xP h1,aC];have e:((if (64:Int) < if (0:Int) > k then (0:Int) else k then (64:Int) else if (0:Int) > k then (0:Int) else k) - (0:Int)).toNat=Yr k:=by
   unfold Yr;split <;> split <;> first | omega | (split <;> omega)
  have g:decide ((0:Int) <= (0:Int) /\ ((0:Int) <= if (64:Int) < if (0:Int) > k then (0:Int) else k then (64:Int) else if (0:Int) > k then (0:Int) else k) /\
    (if (64:Int) < if (0:Int) > k then (0:Int) else k then (64:Int) else if (0:Int) > k then (0:Int) else k) <= (64:Int))=true:=by
   refine aD ⟨Int.le_refl _,?_,?_⟩
   ·split <;> split <;> omega
   ·split <;> split <;> omega
  rw [g,aB,e,gL]; rfl
 ·cases ht
abbrev aCc:Cg:=Ls 
theorem aK8:CfOk prog aCc.c:=gk <| aH
def Ra:Summ where
 T:=Str
 run:=λ
  | [.c (.s (.pl (.str s)))]=>cond (Nat.ble s.length 1099511627776) (some (tT s)) none
  | _=>none
 enc:=λ t=>.str t
def aCd:FA Str:=Ra.run
theorem aCe (a:Nat) (h:a < 16):sl Mg (a:Int) ((a:Int)+1)=[Mg.getD a 0]:=by
 have:∀ a:Fin 16,sl Mg ((a.1:Nat):Int) (((a.1:Nat):Int)+1)=[Mg.getD a.1 0]:=by decide
 exact this ⟨a,h⟩
theorem aFi (s:Str) (c:UInt8):tT (s++[c])=tT s++[Mg.getD (c.toNat / 16) 0]++[Mg.getD (c.toNat%16) 0]:=by
 rw [V9,iO]; rfl
theorem Nb (s:Str) (i:Nat) (h:i < s.length):s.take (i+1)=s.take i++[s.getD i 0]:=by
 rw [x9,jZ h,jM,jZ h]; rfl
theorem aSI (s:Str) (hl:s.length <= 1099511627776) (fu:Nat):∀ (d n i:Nat),i+d=s.length->d < n ->
  eV prog aCc fu RH (RI fu) n (some (Jj s (tT (s.take i)) (i:Int)))=some (.str (tT s)):=by
 intro d
 induction d with
 | zero=>
  intro n i hi hn;obtain ⟨n,rfl⟩:=aP (by omega:n ≠ 0);have e:i=s.length:=by omega
  rw [aF,aBS,aJ (by omega),aE,aR,aFa,e,Ar]
 | succ d ih=>
  intro n i hi hn;obtain ⟨n,rfl⟩:=aP (by omega:n ≠ 0);have h:=ih n (i+1) (by omega) (by omega);rw [Nb s i (by omega),aFi] at h;have hc:=(s.getD i 0).toNat_lt;have hlen:(tT (s.take i)).length <= 2*s.length:=by rw [WA,dH]; omega
  have q:i64.wrap ((i64.wrap (((s.getD i 0).toNat:Nat):Int)).tdiv 16)=(((s.getD i 0).toNat / 16:Nat):Int):=by
   rw [bW (n:=(((s.getD i 0).toNat:Nat):Int)) (by omega) (by omega),qH (by omega),bW (by omega) (by omega)]; omega
  have q1:i64.wrap ((((s.getD i 0).toNat / 16:Nat):Int)+1)=(((s.getD i 0).toNat / 16:Nat):Int)+1:=bW (by omega) (by omega);have r:(i64.wrap (((s.getD i 0).toNat:Nat):Int)).tmod 16=(((s.getD i 0).toNat%16:Nat):Int):=by
   rw [bW (by omega) (by omega),mQ (by omega)]; omega
  have r1:i64.wrap ((((s.getD i 0).toNat%16:Nat):Int)+1)=(((s.getD i 0).toNat%16:Nat):Int)+1:=bW (by omega) (by omega);have a1:=aCe ((s.getD i 0).toNat / 16) (by omega);have a2:=aCe ((s.getD i 0).toNat%16) (by omega);unfold Mg at a1 a2;rw [aF,aBS,aD (by omega),aB,aD (by omega),aB,aB,bD,q,q1,r,r1,a1,a2,aD (by omega),aB,
   aD (by rw [wS]; omega),aB,aD (by omega),aB,aD (by rw [cD,wS,wS]; omega),aB,bW (by omega) (by omega)]
  exact h
theorem aFj:CallOk prog 60 Ra:=by
 refine aZ (fu:=λ args=>match args with | [.c (.s (.pl (.str s)))]=>s.length+1 | _=>0) aK8 Tryz.func60 ?_;intro args t ht;unfold Ra at ht;simp only at ht;split at ht
 ·rename_i s;obtain ⟨h1,h2⟩:=bO ht;subst h2;rw [dJ] at h1;exact (aSv ..).trans (aSI s h1 _ s.length _ 0 (by omega) (lH _))
 ·cases ht
abbrev kL:Cg:=fI (PUnit) rK (Nat) fZ (λ t=>↑t)
theorem aK9:CfOk prog kL.c:=gk <| aA bJU <| aA aTF <| aH
def Rb:Summ where
 T:=List Nat
 run:=λ
  | [.c (.s (.pl (.str s)))]=>cond (Nat.ble s.length 1099511627000) (some (Gh s)) none
  | _=>none
 enc:=λ t=>.agg (.ints .u8 (up t)) 64
def aCf:FA (List Nat):=Rb.run
theorem dT {p:Prop} [Decidable p] (h:p):decide p=true:=aD h
theorem GJ (n:Nat):Lib.repeatL ([0]:Str) n=List.replicate n 0:=by
 induction n with
 | zero=>rfl
 | succ n ih=>rw [Lib.repeatL,ih]; rfl
theorem bHv (t:Str) (hl:t.length <= 1099511627000) (v:Int) (z:List Int) (fu:Nat):∀ (d n j:Nat),j+d=(247 - t.length%128)%128->d < n ->
  eV prog kL fu RK (RL _ rK _ fZ (λ t=>(t:Int)) fu) n (some (Jl (t.length+1+j) v z ((t.length+1+j)*1) ((t++([128]++List.replicate j 0)).map sE))) =
   aBW _ rK _ fZ (λ t=>(t:Int)) fu (Gf t).length v 7 z ((Gf t).length*1) ((Gf t).map sE):=by
 intro d
 induction d with
 | zero=>
  intro n j hj hn;obtain ⟨n,rfl⟩:=aP (by omega:n ≠ 0);have e:((t.length+1+j:Nat):Int).tmod 128=120:=by rw [mQ (by omega)]; omega
  rw [aF,aBV,aD e,iD,aE,aR,aFc,GF,show t.length+1+j=t.length+1+(247 - t.length%128)%128 by omega,Gf,GJ,<-hj]; rfl
 | succ d ih=>
  intro n j hj hn;obtain ⟨n,rfl⟩:=aP (by omega:n ≠ 0);have h:=ih n (j+1) (by omega) (by omega);have e:¬ ((t.length+1+j:Nat):Int).tmod 128=120:=by rw [mQ (by omega)]; omega
  rw [aF,aBV,aJ e,jB,aB,aD (by omega),aB];rw [List.replicate_succ',<-iO [128],<-iO t,rP (l₁:=t++_)] at h;exact h
theorem bDW (n:Nat):sE (b8 ((n%256:Nat):Int))=((n%256:Nat):Int):=by
 unfold sE;rw [b8,bD];simp
theorem bHw (P:Str) (hP:P.length+8 <= 1099511627776) (m:Nat) (hm:m < 18446744073709551616) (z:List Int) (fu:Nat):∀ (d n k:Nat),k+d=8->d < n ->
  eV prog kL fu RM (RN _ rK _ fZ (λ t=>(t:Int)) fu) n (some (Jm (P.length+k) (m:Int) (7 - (k:Int)) z ((P.length+k)*1) ((P++be m k).map sE))) =
   aBY _ rK _ fZ (λ t=>(t:Int)) fu (P.length+8) 8 (up kN) 80 0 z ((P.length+8)*1) ((P++be m 8).map sE) 8 (up hN):=by
 intro d
 induction d with
 | zero=>
  intro n k hk hn;obtain ⟨n,rfl⟩:=aP (by omega:n ≠ 0);have:k=8:=by omega
  subst this;rw [aF,aBX,aJ (by decide),aE,aR,aFd,show rK []=some () from rfl,aC]; rfl
 | succ d ih=>
  intro n k hk hn;obtain ⟨n,rfl⟩:=aP (by omega:n ≠ 0);have h:=ih n (k+1) (by omega) (by omega);have hl:=Lt m k;have hix:i64.wrap ((8:Int)*(7 - (k:Int)))=((8*(7 - k):Nat):Int):=by rw [bW (by omega) (by omega)]; omega
  rw [aF,aBX,aD (by omega),aB,hix,aJ (by omega),aE,aD (by omega),aB,pF _ _ (by omega),qD,bW (by omega) (by omega)];rw [show (7:Int) - (k:Int) - 1=7 - ((k+1:Nat):Int) by omega];rw [be,<-iO,rP (l₁:=P++_),List.map_singleton,bDW] at h;exact h
theorem aLa (s:Str) (i k:Nat) (hk:k < 8):u64.wrap (u64.wrap (((wd s i k:Nat):Int)*256)+u64.wrap (((s.getD (8*i+k) 0).toNat:Nat):Int))=((wd s i (k+1):Nat):Int):=by
 have hb:=(s.getD (8*i+k) 0).toNat_lt;have h1:=aMq s i k;have h2:(256:Nat) ^ k <= 256 ^ 7:=kM (by decide) (by omega);rw [show ((wd s i k:Nat):Int)*256=((wd s i k*256:Nat):Int) by omega,gP,gP,aY (by omega),aY (by omega),<-iE,gP,aY (by omega)]; rfl
theorem aSJ (F:Str) (a j:Nat) (hj:j < 128):(F.map sE).getD (a+j) 0=((((F.drop a).take 128).getD j 0).toNat:Int):=by
 rw [jM,jM,lC,aX hj,nN,nO];cases F[a+j]? <;> rfl
theorem aLb {β:Type} (F:Str) (a:Nat) (ha:a+128 <= F.length) (hF:F.length <= 1099511627776) (i:Nat) (hi:i < 16) (fu:Nat) (z x2:List Int) (m1 m2 m3:Nat) (G:FG β) (H:FH β):∀ (d n k:Nat),k+d=8->d < n ->
  eV prog kL fu RO (RQ _ rK _ fZ (λ t=>(t:Int)) fu G H) n (some (Jn F.length 8 (up kN) 80 (a:Int) 80 (i:Int) (k:Int) z m1 (F.map sE) m2 x2 m3 (up ((blk ((F.drop a).take 128) i).set i (wd ((F.drop a).take 128) i k))))) =
   G (some (GH F.length 8 (up kN) 80 (a:Int) 80 ((i+1:Nat):Int) z m1 (F.map sE) m2 x2 m3 (up (blk ((F.drop a).take 128) (i+1))))):=by
 intro d
 induction d with
 | zero=>
  intro n k hk hn;obtain ⟨n,rfl⟩:=aP (by omega:n ≠ 0);have:k=8:=by omega
  subst this;rw [aF,aB2,aJ (by decide),aE,aR,aFg,bW (by omega) (by omega),aCS _ i (by omega)]; rfl
 | succ d ih=>
  intro n k hk hn;obtain ⟨n,rfl⟩:=aP (by omega:n ≠ 0);have h:=ih n (k+1) (by omega) (by omega);have hix:i64.wrap (i64.wrap ((a:Int)+i64.wrap ((8:Int)*(i:Int)))+(k:Int))=((a+(8*i+k):Nat):Int):=by
   rw [bW (n:=8*(i:Int)) (by omega) (by omega),bW (n:=(a:Int)+8*(i:Int)) (by omega) (by omega),bW (by omega) (by omega)]; omega
  rw [aF,aB2,aD (by omega),aB,hix,aD (by omega),aB,aD (by omega),aB,aB,bD,bD,aSJ F a _ (by omega),oG,CO,aX ⟨rfl,by rw [DC _ _ (by omega)]; omega⟩,
   aLa _ i k (by omega),H3,List.set_set,bW (by omega) (by omega)]
  exact h
theorem aLc {β:Type} (F:Str) (a:Nat) (ha:a+128 <= F.length) (hF:F.length <= 1099511627776) (fu:Nat) (hfu:8 < fu) (z x2:List Int) (m1 m2 m3:Nat) (G:FG β) (H:FH β):∀ (d n i:Nat),i+d=16->d < n ->
  eV prog kL fu C5 (GI _ rK _ fZ (λ t=>(t:Int)) fu G H) n (some (GH F.length 8 (up kN) 80 (a:Int) 80 (i:Int) z m1 (F.map sE) m2 x2 m3 (up (blk ((F.drop a).take 128) i)))) =
   aB3 _ rK _ fZ (λ t=>(t:Int)) fu G H F.length 8 (up kN) 80 (a:Int) 80 16 z m1 (F.map sE) m2 x2 m3 (up (blk ((F.drop a).take 128) 16)):=by
 intro d
 induction d with
 | zero=>
  intro n i hi hn;obtain ⟨n,rfl⟩:=aP (by omega:n ≠ 0);have:i=16:=by omega
  subst this;rw [aF,aB0,aJ (by decide),aE,aR,aFf]
 | succ d ih=>
  intro n i hi hn;obtain ⟨n,rfl⟩:=aP (by omega:n ≠ 0);rw [aF,aB0,aD (by omega),aB];have h:=aLb F a ha hF i (by omega) fu z x2 m1 m2 m3 (eV prog kL fu C5 (GI _ rK _ fZ (λ t=>(t:Int)) fu G H) n) (Db (GI _ rK _ fZ (λ t=>(t:Int)) fu G H)) 8 fu 0 (by omega) hfu;rw [<-PC _ i (by omega)] at h;refine iW h ?_;exact ih n (i+1) (by omega) (by omega)
theorem aLd {β:Type} (F:Str) (a:Nat) (fu:Nat) (z x2:List Int) (m1 m2 m3:Nat) (G:FG β) (H:FH β) (x0:List Nat) (hx0:Gl x0) (h8:x2=up (dn x2) ):∀ (e n d:Nat),d+e=64->e < n ->
  eV prog kL fu RT (RU _ rK _ fZ (λ t=>(t:Int)) fu G H) n (some (Jp F.length 8 (up kN) 80 (a:Int) 80 ((16+d:Nat):Int) z m1 (F.map sE) m2 x2 m3 (up (lM x0 d)))) =
   aB6 _ rK _ fZ (λ t=>(t:Int)) fu G H F.length 8 (up kN) 80 (a:Int) 80 [x2.getD 0 0,x2.getD 1 0,x2.getD 2 0,x2.getD 3 0,x2.getD 4 0,x2.getD 5 0,x2.getD 6 0,x2.getD 7 0] 8 0 z m1 (F.map sE) m2 x2 m3 (up (lM x0 64)):=by
 intro e
 induction e with
 | zero=>
  intro n d hd hn;obtain ⟨n,rfl⟩:=aP (by omega:n ≠ 0);have:d=64:=by omega
  subst this;rw [aF,aB5,aJ (by decide),aE,aR,Yn];rfl
 | succ e ih=>
  intro n d hd hn;obtain ⟨n,rfl⟩:=aP (by omega:n ≠ 0);have h:=ih n (d+1) (by omega) (by omega);have ok:=V8 hx0 d;have w:∀ k:Nat,k <= 16->i64.wrap (((16+d:Nat):Int) - ((k:Nat):Int))=((16+d - k:Nat):Int):=λ k hk=>by rw [bW (by omega) (by omega)]; omega
  have w15:=w 15 (by omega);have w2:=w 2 (by omega);have w16:=w 16 (by omega);have w7:=w 7 (by omega);simp only [IC] at w15 w2 w16 w7;rw [aF,aB5,aD (by omega),aB,w15,w2,w16,w7];simp (disch:=omega) only [dT,aB];simp only [bD,oG];have t1:=fU _ 1 (ok (16+d - 15)) (by decide) (by decide);have t8:=fU _ 8 (ok (16+d - 15)) (by decide) (by decide);have t19:=fU _ 19 (ok (16+d - 2)) (by decide) (by decide);have t61:=fU _ 61 (ok (16+d - 2)) (by decide) (by decide);simp only [IC] at t1 t8 t19 t61;rw [t1,aC,t8,aC,t19,aC,t61,aC];have a15:=ok (16+d - 15);have a2:=ok (16+d - 2);have x0':gG .u64 (gG .u64 ((rr ((lM x0 d).getD (16+d - 15) 0) 1:Nat):Int) ((rr ((lM x0 d).getD (16+d - 15) 0) 8:Nat):Int)) (eJ .u64 (((lM x0 d).getD (16+d - 15) 0:Nat):Int) 7)=((g0 ((lM x0 d).getD (16+d - 15) 0):Nat):Int):=by
   rw [show (7:Int)=((7:Nat):Int) from rfl,pF _ _ (by decide),uG _ _ (kT _ a15) (kT _ a15),uG _ _ (wN (kT _ a15) (kT _ a15)) (Gn _ a15)]; rfl
  have x1':gG .u64 (gG .u64 ((rr ((lM x0 d).getD (16+d - 2) 0) 19:Nat):Int) ((rr ((lM x0 d).getD (16+d - 2) 0) 61:Nat):Int)) (eJ .u64 (((lM x0 d).getD (16+d - 2) 0:Nat):Int) 6)=((g1 ((lM x0 d).getD (16+d - 2) 0):Nat):Int):=by
   rw [show (6:Int)=((6:Nat):Int) from rfl,pF _ _ (by decide),uG _ _ (kT _ a2) (kT _ a2),uG _ _ (wN (kT _ a2) (kT _ a2)) (Gn _ a2)]; rfl
  have sm:∀ a b c e:Nat,u64.wrap (u64.wrap (u64.wrap ((a:Int)+(b:Int))+(c:Int))+(e:Int))=((TK (a+b+c+e):Nat):Int):=λ a b c e=>by
   rw [<-iE,gP,<-iE,gP,<-iE,gP,TK];have:((((a+b)%18446744073709551616+c)%18446744073709551616)+e)%18446744073709551616=(a+b+c+e)%18446744073709551616:=by omega
   rw [this]
  rw [x0',x1',sm,H3,bW (by omega) (by omega)];exact h
theorem bDX (x:Nat) (hx:x < 18446744073709551616):u64.wrap ((18446744073709551615:Int) - (x:Int))=((18446744073709551615 - x:Nat):Int):=by
 rw [show (18446744073709551615:Int) - (x:Int)=((18446744073709551615 - x:Nat):Int) by omega,gP,aY (by omega)]
theorem aFk {β:Type} (F:Str) (a:Nat) (fu:Nat) (z x2:List Int) (m1 m2 m3:Nat) (G:FG β) (H:FH β) (s w:List Nat) (hs:Gl s):∀ (d n i:Nat),i+d=80->d < n ->
  eV prog kL fu RV (RW _ rK _ fZ (λ t=>(t:Int)) fu G H) n (some (Jq F.length 8 (up kN) 80 (a:Int) 80 (up (CM w s i)) 8 (i:Int) z m1 (F.map sE) m2 x2 m3 (up w))) =
   aB8 _ rK _ fZ (λ t=>(t:Int)) fu G H F.length 8 (up kN) 80 (a:Int) (up (CM w s 80)) 8 0 z m1 (F.map sE) m2 x2:=by
 intro d
 induction d with
 | zero=>
  intro n i hi hn;obtain ⟨n,rfl⟩:=aP (by omega:n ≠ 0);have:i=80:=by omega
  subst this;rw [aF,aB7,aJ (by decide),aE,aR,Yo]
 | succ d ih=>
  intro n i hi hn;obtain ⟨n,rfl⟩:=aP (by omega:n ≠ 0);have h:=ih n (i+1) (by omega) (by omega);have ok:=Mf w hs i;rw [show CM w s (i+1)=rnd (CM w s i) (kN.getD i 0) (w.getD i 0) from rfl] at h;rw [aF,aB7,aD (by omega),aB];generalize CM w s i=t at ok h ⊢;have t14:=fU _ 14 (ok 4) (by decide) (by decide);have t18:=fU _ 18 (ok 4) (by decide) (by decide);have t41:=fU _ 41 (ok 4) (by decide) (by decide);have t28:=fU _ 28 (ok 0) (by decide) (by decide);have t34:=fU _ 34 (ok 0) (by decide) (by decide);have t39:=fU _ 39 (ok 0) (by decide) (by decide);simp only [IC] at t14 t18 t41 t28 t34 t39;simp only [bD,oG];simp (disch:=omega) only [dT,aB,t14,aC,t18,t41,t28,t34,t39];have y:=bHI t ok;have x:=bHH t ok (kN.getD i 0) (w.getD i 0);rw [aX2 _ (ok 4),<-bDX _ (ok 4)] at x;rw [x,y,bW (by omega) (by omega)];have sm:∀ a b:Nat,u64.wrap ((a:Int)+(b:Int))=((TK (a+b):Nat):Int):=λ a b=>by rw [<-iE,gP]; rfl
  rw [sm,sm];exact h
theorem bDY {β:Type} (F:Str) (a:Nat) (hF:F.length <= 1099511627776) (ha:a+128 <= F.length) (fu:Nat) (z:List Int) (m1 m2:Nat) (G:FG β) (H:FH β) (s t:List Nat):∀ (d n i:Nat),i+d=8->d < n ->
  eV prog kL fu RX (RY _ rK _ fZ (λ t=>(t:Int)) fu G H) n (some (Jr F.length 8 (up kN) 80 (a:Int) (up t) 8 (i:Int) z m1 (F.map sE) m2 (up (Md s t i)))) =
   G (some (GG F.length 8 (up kN) 80 ((a+128:Nat):Int) z m1 (F.map sE) m2 (up (Md s t 8)))):=by
 intro d
 induction d with
 | zero=>
  intro n i hi hn;obtain ⟨n,rfl⟩:=aP (by omega:n ≠ 0);have:i=8:=by omega
  subst this;rw [aF,aB9,aJ (by decide),aE,aR,Yp,bW (by omega) (by omega)]; rfl
 | succ d ih=>
  intro n i hi hn;obtain ⟨n,rfl⟩:=aP (by omega:n ≠ 0);have h:=ih n (i+1) (by omega) (by omega);have sm:∀ a b:Nat,u64.wrap ((a:Int)+(b:Int))=((TK (a+b):Nat):Int):=λ a b=>by rw [<-iE,gP]; rfl
  rw [aF,aB9];simp (disch:=omega) only [dT,aB];rw [bD,oG,oG,sm,H3,bW (by omega) (by omega)];exact h
theorem aLe {s:List Nat} (h:s.length=8):[(up s).getD 0 0,(up s).getD 1 0,(up s).getD 2 0,(up s).getD 3 0,(up s).getD 4 0,(up s).getD 5 0,(up s).getD 6 0,(up s).getD 7 0]=up s:=by
 match s,h with
 | [a,b,c,d,e,f,g,i],_=>rfl
theorem aFl (F:Str) (hF:F.length <= 1099511627776) (z:List Int) (m1 m2:Nat) (fu:Nat) (hfu:80 < fu):∀ (q n a:Nat) (h:List Nat),a+128*q=F.length->h.length=8->Gl h->q < n ->
  eV prog kL fu k6 (pZ _ rK _ fZ (λ t=>(t:Int)) fu) n (some (GG F.length 8 (up kN) 80 (a:Int) z m1 (F.map sE) m2 (up h))) =
   aB1 _ rK _ fZ (λ t=>(t:Int)) fu 8 0 z m2 (up (Ej h q (F.drop a))) sC:=by
 intro q
 induction q with
 | zero=>
  intro n a h hq hl ok hn;obtain ⟨n,rfl⟩:=aP (by omega:n ≠ 0);rw [aF,aBZ,aJ (by omega),aE,aR,aFe]; rfl
 | succ q ih=>
  intro n a h hq hl ok hn;obtain ⟨n,rfl⟩:=aP (by omega:n ≠ 0);rw [aF,aBZ,aD (by omega),aB];have o:=aLc F a (by omega) hF fu (by omega) z (up h) m1 m2 80 (eV prog kL fu k6 (pZ _ rK _ fZ (λ t=>(t:Int)) fu) n) (Db (pZ _ rK _ fZ (λ t=>(t:Int)) fu)) 16 fu 0 (by omega) (by omega);refine iW (iW ?_ o) ?_
  ·rfl
  have c:=aLd F a fu z (up h) m1 m2 80 (eV prog kL fu k6 (pZ _ rK _ fZ (λ t=>(t:Int)) fu) n) (Db (pZ _ rK _ fZ (λ t=>(t:Int)) fu)) (blk ((F.drop a).take 128) 16) (aMr _ _) (by rw [VM]) 64 fu 0 (by omega) (by omega);refine iW (iW ?_ c) ?_
  ·rfl
  rw [aLe hl];have r:=aFk F a fu z (up h) m1 m2 80 (eV prog kL fu k6 (pZ _ rK _ fZ (λ t=>(t:Int)) fu) n) (Db (pZ _ rK _ fZ (λ t=>(t:Int)) fu)) h (lM (blk ((F.drop a).take 128) 16) 64) ok 80 fu 0 (by omega) (by omega);refine iW (iW ?_ r) ?_
  ·rfl
  have x:=bDY F a hF (by omega) fu z m1 m2 (eV prog kL fu k6 (pZ _ rK _ fZ (λ t=>(t:Int)) fu) n) (Db (pZ _ rK _ fZ (λ t=>(t:Int)) fu)) h (CM (lM (blk ((F.drop a).take 128) 16) 64) h 80) 8 fu 0 (by omega) (by omega);refine iW (iW ?_ x) ?_
  ·rfl
  have i:=ih n (a+128) (Gd h ((F.drop a).take 128)) (by omega) (Ol _ hl) (Lu _ ok) (by omega);rw [<-yS] at i;exact i
theorem bDZ (h:List Nat) (ok:Gl h) (z:List Int) (m:Nat) (fu:Nat):∀ (d n i:Nat),i+d=64->d < n ->
  eV prog kL fu RR (RS _ rK _ fZ (λ t=>(t:Int)) fu) n (some (Jo 8 (i:Int) z m (up h) (up (Gg h i)++List.replicate (64 - i) 0)))=some (.agg (.ints .u8 (up (Gg h 64))) 64):=by
 intro d
 induction d with
 | zero=>
  intro n i hi hn;obtain ⟨n,rfl⟩:=aP (by omega:n ≠ 0);have:i=64:=by omega
  subst this;rw [aF,aB4,aJ (by decide),aE,aR,Ym,iL,sJ,jC]
 | succ d ih=>
  intro n i hi hn;obtain ⟨n,rfl⟩:=aP (by omega:n ≠ 0);have h':=ih n (i+1) (by omega) (by omega);have h1:((i:Nat):Int).tdiv 8=((i / 8:Nat):Int):=by rw [qH (by omega)]; omega
  have h2:((i:Nat):Int).tmod 8=((i%8:Nat):Int):=by rw [mQ (by omega)]; omega
  have e1:i64.wrap (((i:Nat):Int).tdiv 8)=((i / 8:Nat):Int):=by rw [h1]; exact bW (by omega) (by omega)
  have e2:i64.wrap ((56:Int) - i64.wrap ((8:Int)*((i:Nat):Int).tmod 8))=((56 - 8*(i%8):Nat):Int):=by
   rw [h2,bW (n:=8*((i%8:Nat):Int)) (by omega) (by omega),bW (by omega) (by omega)]; omega
  rw [aF,aB4,aD (by omega),aB,e1,e2,aD (by omega),aB,aJ (by omega),aE,aD (by omega),aB,bD,bD,bT,oG,pF _ _ (by omega),qD,bW (by omega) (by omega),VO h i (by omega)];exact h'
theorem bD0 (s:Str) (h1:s.length <= 1099511627000) (fu:Nat) (hf:(full s).length+100 < fu):aS prog Tryz.f192 kL fu [.str s]=some (.agg (.ints .u8 (up (Gh s))) 64):=by
 refine (aSB ..).trans ?_;rw [aD (by omega),aB,aD (by omega),aB];have hw:u64.wrap (u64.wrap ((s.length:Nat):Int)*8)=((s.length*8:Nat):Int):=by
  rw [gP,aY (by omega),show ((s.length:Nat):Int)*8=((s.length*8:Nat):Int) by omega,gP,aY (by omega)]
 rw [hw];have hl:=GF s;have fl:=VP s;have fe:(full s).length=(Gf s).length+8:=by rw [full,cD,Lt]
 have a:=bHv s h1 ((s.length*8:Nat):Int) sC fu _ fu 0 (bT _) (by omega);have b:=bHw (Gf s) (by omega) (s.length*8) (by omega) sC fu 8 fu 0 (by omega) (by omega);rw [show Gf s++be (s.length*8) 0=Gf s from jC _,<-fe] at b;have c:=aFl (full s) (by omega) sC ((full s).length*1) 8 fu (by omega) ((full s).length / 128) fu 0 hN (by omega) rfl RJ (by omega);have e:=bDZ (Ej hN ((full s).length / 128) (full s)) (Om _ _ _ RJ) sC 8 fu 64 fu 0 (by omega) (by omega);rw [Lv] at e;rw [gL] at c;rw [show (List.replicate 0 (0:UInt8))=[] from rfl,jC,rP] at a;exact iW a (iW b (iW c e))
theorem aFm:CallOk prog 192 Rb:=by
 refine aZ (fu:=λ args=>match args with | [.c (.s (.pl (.str s)))]=>(full s).length+101 | _=>0) aK9 Tryz.func192 ?_;intro args t ht;unfold Rb at ht;simp only at ht;split at ht
 ·rename_i s;obtain ⟨h1,h2⟩:=bO ht;subst h2;rw [dJ] at h1;exact bD0 s h1 _ (lH _)
 ·cases ht
section
variable (T0:Type) (R0:FA T0) (aG:T0->List UInt8) (T1:Type) (R1:FA T1) (aM:T1->List UInt8) (T2:Type) (R2:FA T2) (bE:T2->List Int)
def aXE:Cg:=⟨⟨cV [(143,⟨R0,λ t=>AV.str (aG t)⟩),(142,⟨R1,λ t=>AV.str (aM t)⟩),(78,⟨R2,λ t=>AV.agg (.ints .u8 (bE t)) 64⟩)],[],cX⟩,[]⟩
theorem bD1 (fu:Nat):aS prog Tryz.f103 (aXE T0 R0 aG T1 R1 aM T2 R2 bE) fu []=(R0 [.int .i64 8,.s (.dat (.strs ([[(97:UInt8)]]++[[(98:UInt8),99]])) 2 1)]).bind λ t=>(R1 [.str (aG t)]).bind λ t=>bif decide (aM t=[(100:UInt8),100,97,102,51,53,97,49,57,51,54,49,55,97,98,97]) then (R2 [.s (.dat (.strs []) 0 1)]).bind λ t=>some (AV.bool (decide ((64:Int)=64))) else some (AV.bool false):=by kernel_rfl
end
section
variable (T0:Type) (R0:FA T0) (aG:T0->List Int) (T1:Type) (R1:FA T1) (aM:T1->List UInt8)
def aXF:Cg:=⟨⟨cV [(192,⟨R0,λ t=>AV.agg (.ints .u8 (aG t)) 64⟩),(191,⟨R1,λ t=>AV.str (aM t)⟩)],[],cX⟩,[]⟩
theorem bD2 (fu:Nat) (s:Str):aS prog Tryz.f177 (aXF T0 R0 aG T1 R1 aM) fu [.str s]=(R0 [.str s]).bind λ t=>(R1 [.agg (.ints .u8 (aG t)) 64]).bind λ t=>some (AV.str (aM t)):=by kernel_rfl
end
def aLf:Summ where
 T:=Str
 run:=λ
  | [.c (.s (.pl (.str s)))]=>cond (Nat.ble s.length 1099511627000) (some ((up (Gh s)).map b8)) none
  | _=>none
 enc:=λ t=>.str t
def GK:FA Str:=aLf.run
abbrev bD3:Cg:=aXE (List UInt8) aK6 (λ t=>t) (List UInt8) bHK (λ t=>t) (List Nat) SI (λ t=>up t)
theorem aSK:CfOk prog bD3.c:=gk <| aA aK7 <| aA bES <| aA EZ <| aH
abbrev bD4:Cg:=aXF (List Nat) aCf (λ t=>up t) (List UInt8) aBU (λ t=>t)
theorem aSL:CfOk prog bD4.c:=gk <| aA aFm <| aA aSG <| aH
theorem aFn (k:Int) {ss:List Str} {n:Nat} (h:nZ ss n=true):aK6 [.int .i64 k,.s (.dat (.strs ss) n 1)]=some (RZ k (Lib.join ss [])):=by
 show cond (nZ ss n) (some (RZ k (Lib.join ss []))) none=_;rw [h]; rfl
theorem Yt {s:Str} (h:s.length <= 1099511627000):aCf [.str s]=some (Gh s):=by
 show cond (Nat.ble s.length 1099511627000) _ none=_;rw [show Nat.ble s.length 1099511627000=true by rw [dJ]; exact h]; rfl
theorem GL {a:List Int} (h:a.length=64):aBU [.agg (.ints .u8 a) 64]=some (a.map b8):=by
 show cond (Nat.beq a.length 64) _ none=_;rw [h]; rfl
theorem L7 {s:Str} (h:s.length <= 1099511627000):GK [.str s]=some ((up (Gh s)).map b8):=by
 show cond (Nat.ble s.length 1099511627000) _ none=_;rw [show Nat.ble s.length 1099511627000=true by rw [dJ]; exact h]; rfl
theorem wK (s:Str):(Gh s).length=64:=VN _ _
theorem aSM:CallOk prog 177 aLf:=by
 refine fO aSL Tryz.func177 ?_;intro args t ht;unfold aLf at ht;simp only at ht;split at ht
 ·rename_i s;obtain ⟨h1,h2⟩:=bO ht;subst h2;rw [dJ] at h1;refine (bD2 ..).trans ?_;rw [Yt h1,aC,GL (by rw [Ad,wK]),aC]; rfl
 ·cases ht
theorem aFo:tT (RZ 8 [97,98,99])=[100,100,97,102,51,53,97,49,57,51,54,49,55,97,98,97]:=by decide +kernel
theorem Yu:CallOk prog 103 gE:=by
 refine fO aSK Tryz.func103 ?_;intro args t ht;unfold gE at ht;simp only at ht;split at ht
 ·cases ht;refine (bD1 ..).trans ?_;rw [aFn 8 (by decide),aC,aTK (by decide +kernel),aC,show Lib.join ([[97]]++[[98,99]]) []=([97,98,99]:Str) from rfl,aFo,aD rfl,aB,xP (by decide),aC]; rfl
 ·cases ht
theorem GM (n:Nat):(CA n).length=2:=rfl
theorem VT {ss:List Str} {n:Nat} (h:Nat.beq n ss.length=true) (h2:ss.length <= 1048576) (h3:(qT ss).length <= 1099511627776):VR [.s (.dat (.strs ss) n 1)]=some (qT ss):=by
 show cond (Nat.beq n ss.length && Nat.ble ss.length 1048576 && Nat.ble (qT ss).length 1099511627776) (some (qT ss)) none=_;rw [h,show Nat.ble ss.length 1048576=true by rw [dJ]; exact h2,show Nat.ble (qT ss).length 1099511627776=true by rw [dJ]; exact h3]; rfl
theorem aSN {n:Nat} (h:n < 4611686018427387904):Ii [.int .i64 (n:Int)]=some (CA n):=by
 have e:decide (0 <= (n:Int) /\ (n:Int) < 4611686018427387904)=true:=aD (by omega);simp only [Ii,aBT,e,aB,bD]
theorem Yv {s:Str} (h:s.length <= 1099511627776):aCd [.str s]=some (tT s):=by
 show cond (Nat.ble s.length 1099511627776) (some (tT s)) none=_;rw [show Nat.ble s.length 1099511627776=true by rw [dJ]; exact h]; rfl
end
end Go.Eng
