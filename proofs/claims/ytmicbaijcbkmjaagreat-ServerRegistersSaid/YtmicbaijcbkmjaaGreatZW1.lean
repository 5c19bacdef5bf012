import Derived.Test.YtmicbaijcbkmjaaGreatZS0
namespace Go.Eng
open Go.IntKind (u64 i64 u8)
noncomputable section
open Go Go.Proofs
set_option linter.all false
def aAd:List Int->List Str->Bool
 | n :: r,p :: q=>decide ((p.length:Int)=n) && aAd r q
 | _,_=>true
def CI (l:List Int) (ps:List Str):Str × Int:=cond (Nat.beq l.length ps.length) (cond (aAd l ps) (ps.flatten,0) ([],4)) ([],6)
def aFz (l:List Int) (n:Nat):Bool:=Nat.beq n l.length && Nat.ble l.length 1048576 && l.all λ x=>decide (-9223372036854775808 <= x /\ x < 9223372036854775808)
def UU (l:List Str) (n:Nat):Bool:=Nat.beq n l.length && Nat.ble l.length 1048576 && Nat.ble l.flatten.length 1099511627776
def FE:Summ where
 T:=Str × Int
 run:=λ
  | [.c (.s (.dat (.ints .i64 l) n 1)),.c (.s (.dat (.strs ps) m 1))]=>cond (aFz l n && UU ps m) (some (CI l ps)) none
  | _=>none
 enc:=λ t=>.tup [.s (.pl (.str t.1)),.s (.pl (.int .i64 t.2))]
def UV:FA (Str × Int):=FE.run
def UW (l:List Int):Summ where
 T:=Unit
 run:=λ
  | []=>some ()
  | _=>none
 enc:=λ _=>.s (.dat (.ints .i64 l) l.length 1)
def N6 (k:Nat) (l:List Int):FA (Str × Int)
 | [.c (.s (.pl (.agg (.strs ss) n)))]=>cond (Nat.beq n k && Nat.beq ss.length k && Nat.ble ss.flatten.length 1099511627776) (some (CI l ss)) none
 | _=>none
def aYC (k:Nat) (l:List Int):Summ:={ T:=Str × Int,run:=N6 k l,enc:=λ t=>.tup [.s (.pl (.str t.1)),.s (.pl (.int .i64 t.2))] }
def aYD:Summ:=aYC 1 [32]
def N7:FA (Str × Int):=N6 1 [32]
def aYE:Summ:=UW [32]
def aYF:FA Unit:=(UW [32]).run
section
variable (T0:Type) (R0:FA T0) (aG:T0->List UInt8)
def JG:Cg:=⟨⟨dE [(69,⟨R0,λ t=>AV.str (aG t)⟩)],[],dR⟩,[(5,[1,13,14,15],[1,4,5])]⟩
def HP (x1:List Str) (n1:Nat) (x13:List Int) (n13:Nat) (lQ lW:Int):St:={ tm:=[(1,.s (.dat (.strs x1) n1 1)),(13,.s (dI x13 n13)),(14,.int .i64 lQ),(15,.int .i64 lW)],hp:=[],nx:=0,sz:=30 }
def N8:Code:=cM (bN [1,1,0,1,2] (bD Tryz.f33))
def HQ (fu:Nat):=lP prog (JG T0 R0 aG) fu [1,1,0,1,2] (bD Tryz.f33) (fT prog Tryz.f33)
abbrev aLP (fu:Nat) (x1:List Str) (n1:Nat) (x13:List Int) (n13:Nat) (lQ lW:Int):=eS prog (JG T0 R0 aG) fu N8 (HQ T0 R0 aG fu ) fu (some (HP x1 n1 x13 n13 lQ lW))
theorem aLQ (fu:Nat) (a:List Int) (n:Nat) (b:List Str) (m:Nat):bB prog Tryz.f33 (JG T0 R0 aG) fu [.s (dI a n),.s (.dat (.strs b) m 1)]=bif !decide ((n:Int)=(m:Int)) then some (AV.tup [.s (.pl (.str [])),.s (.pl (.int .i64 6))]) else aLP T0 R0 aG fu b m a n (n:Int) 0:=by kernel_rfl
def RJ (x1:List Str) (n1:Nat) (s4:List UInt8) (v5:Int):St:={ tm:=[(1,.s (.dat (.strs x1) n1 1)),(4,.str s4),(5,.int .i64 v5)],hp:=[],nx:=0,sz:=30 }
def LU (x1:List Str) (n1:Nat):St:={ tm:=[(1,.s (.dat (.strs x1) n1 1)),(4,.s SV.junk),(5,.s SV.junk)],hp:=[],nx:=0,sz:=30 }
theorem XO {β:Type} (fu:Nat) (G:FG β) (H:FH β) (x1:List Str) (n1:Nat) (x13:List Int) (n13:Nat) (lQ lW:Int):fI prog (JG T0 R0 aG) fu N8 G H (HP x1 n1 x13 n13 lQ lW)=bif decide (lW < lQ) then bif decide (0 <= lW /\ lW < (n13:Int)) then bif decide (0 <= lW /\ lW < (n1:Int)) then bif !decide ((↑(List.length (x1.getD lW.toNat [])):Int)=x13.getD lW.toNat 0) then H Ex.ret (some (RJ x1 n1 [] 4)) else G (some (HP x1 n1 x13 n13 lQ (i64.wrap (lW+1)))) else none else none else H (Ex.exit 0) (some (LU x1 n1)):=by kernel_rfl
theorem aFA (fu:Nat) (x1:List Str) (n1:Nat) (s4:List UInt8) (v5:Int):HQ T0 R0 aG fu  Ex.ret (RJ x1 n1 s4 v5)=some (AV.tup [.s (.pl (.str s4)),.s (.pl (.int .i64 v5))]):=by kernel_rfl
theorem aAe (fu:Nat) (x1:List Str) (n1:Nat):HQ T0 R0 aG fu  (Ex.exit 0) (LU x1 n1)=(R0 [.s (.dat (.strs x1) n1 1),.str []]).bind λ t=>some (AV.tup [.s (.pl (.str (aG t))),.s (.pl (.int .i64 0))]):=by kernel_rfl
end
def aPo:Cg:=⟨⟨dE [],[],dR⟩,[]⟩
theorem aVl (fu:Nat):bB prog Tryz.f34 aPo fu []=some (AV.s (dI [32] 1)):=by kernel_rfl
section
variable (T0:Type) (R0:FA T0) (T1:Type) (R1:FA T1) (aN:T1->Str) (bI:T1->Int)
def aPp:Cg:=⟨⟨dE [(34,⟨R0,λ t=>AV.s (dI ([32]) (1))⟩),(33,⟨R1,λ t=>AV.tup [.s (.pl (.str (aN t))),.s (.pl (.int .i64 (bI t)))]⟩)],[],dR⟩,[]⟩
theorem aVm (fu:Nat) (a:Str):bB prog Tryz.f17 (aPp T0 R0 T1 R1 aN bI) fu [.agg (.strs [a]) 1]=(R0 []).bind λ t=>(R1 [.s (dI [32] 1),.s (.dat (.strs [a]) 1 1)]).bind λ t=>some (AV.tup [.s (.pl (.str (aN t))),.s (.pl (.int .i64 (bI t)))]):=by kernel_rfl
end
section
variable (T0:Type) (R0:FA T0) (T1:Type) (R1:FA T1) (aN:T1->Str) (bI:T1->Int)
end
section
variable (T0:Type) (R0:FA T0) (aG:T0->Str) (aM:T0->Int)
end
end
end Go.Eng
