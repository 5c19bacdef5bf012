import Derived.Test.YteipjabipehbpaaGreatZT2
namespace Go.Eng
open Go Go.Proofs
set_option linter.all false
set_option maxRecDepth 4000
def mapF (s:Str):Pt × Int :=
 cond (Nat.beq s.length 64) (addP (halfF (looF ((s.take 32).map ofB))) (halfF (looF ((s.drop 32).map ofB))) d2F,0) (neutP,4)
def sMap:Summ where
 T:=Pt × Int
 run:=fun
  | [.c (.s (.pl (.str s)))]=>some (mapF s)
  | _=>none
 enc:=ePE
def rMap:List AV->Option (Pt × Int):=sMap.run
def sMap1:Summ where
 T:=Pt
 run:=fun
  | [.c (.s (.pl (.str s)))]=>cond (Nat.beq s.length 32) (some (halfF (looF (s.map ofB)))) none
  | _=>none
 enc:=eP
def rMap1:List AV->Option Pt:=sMap1.run
set_option maxRecDepth 4000
end Go.Eng
