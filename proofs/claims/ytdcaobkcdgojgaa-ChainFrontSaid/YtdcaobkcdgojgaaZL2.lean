import Derived.Test.YtdcaobkcdgojgaaZL1
namespace Go.Eng
open Go.IntKind (u64 i64 u8)
open Go Go.Proofs
set_option linter.all false
abbrev wi (x:Int):Int:=i64.wrap x
def l1 (x:Int) (K:Int->Int->Option AV):Option AV:=cond (decide (4294967296 <= x)) (K (bShr .u64 x 32) 32) (K x 0)
def l2 (x n:Int) (K:Int->Int->Option AV):Option AV:=cond (decide (65536 <= x)) (K (bShr .u64 x 16) (wi (n+16))) (K x n)
def bl (n:Nat):Nat:=if n=0 then 0 else n.log2+1
def sTrue:Summ where
 T:=Unit
 run:=fun
  | []=>some ()
  | _=>none
 enc:=fun _=>.bool true
def rTrue:List AV->Option Unit:=sTrue.run
end Go.Eng
