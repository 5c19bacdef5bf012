import Derived.KernelRfl
import Derived.Test.YtdcaobkcdgojgaaEngNums
namespace Go.Eng
open Go.IntKind (u64 i64 u8)
set_option linter.all false
def val:List Int->Nat
 | []=>0
 | x :: r=>x.toNat+18446744073709551616*val r
def okL:List Int->Bool
 | []=>true
 | x :: r=>decide (0 <= x /\ x < 18446744073709551616) && okL r
theorem wu64 {n:Int} (h0:0 <= n) (h1:n < 18446744073709551616):u64.wrap n=n:=by
 simp [IntKind.wrap,IntKind.bits,IntKind.signed]; omega
theorem wu64n (n:Nat):u64.wrap (n:Int)=((n%18446744073709551616:Nat):Int):=by
 simp [IntKind.wrap,IntKind.bits,IntKind.signed]
theorem wu8n (n:Nat):u8.wrap (n:Int)=((n%256:Nat):Int):=by
 simp [IntKind.wrap,IntKind.bits,IntKind.signed]
theorem wi64 {n:Int} (h0:-9223372036854775808 <= n) (h1:n < 9223372036854775808):i64.wrap n=n:=by
 have e:(2:Int) ^ 64=18446744073709551616:=by decide
 have e2:(2:Int) ^ 63=9223372036854775808:=by decide
 simp only [IntKind.wrap,IntKind.bits,IntKind.signed]
 simp
 omega
theorem shr64 (x n:Nat) (h:n < 64):bShr .u64 (x:Int) (n:Int)=((x / 2 ^ n:Nat):Int):=by
 unfold bShr
 have:min ((n:Int).toNat) (IntKind.bits .u64)=n:=by
  simp [IntKind.bits]; omega
 rw [this,Int.fdiv_eq_ediv_of_nonneg _ (by exact_mod_cast Nat.zero_le _)]
 push_cast
 rfl
theorem shl64 (x n:Nat) (h:n < 64):bShl .u64 (x:Int) (n:Int)=((x*2 ^ n%18446744073709551616:Nat):Int):=by
 unfold bShl
 have:min ((n:Int).toNat) (IntKind.bits .u64)=n:=by
  simp [IntKind.bits]; omega
 rw [this,show ((x:Int)*2 ^ n)=((x*2 ^ n:Nat):Int) by push_cast; rfl,wu64n]
theorem bv64 (x:Nat) (h:x < 18446744073709551616):(BitVec.ofInt 64 (x:Int)).toNat=x:=by
 simp
 omega
theorem and64 (x y:Nat) (hx:x < 18446744073709551616) (hy:y < 18446744073709551616):bAnd .u64 (x:Int) (y:Int)=((x &&& y:Nat):Int):=by
 unfold bAnd
 have e:(BitVec.ofInt (IntKind.bits .u64) (x:Int) &&& BitVec.ofInt (IntKind.bits .u64) (y:Int)).toNat=x &&& y:=by
  show (BitVec.ofInt 64 (x:Int) &&& BitVec.ofInt 64 (y:Int)).toNat=x &&& y
  rw [BitVec.toNat_and,bv64 x hx,bv64 y hy]
 rw [e,wu64n,Nat.mod_eq_of_lt]
 exact Nat.lt_of_le_of_lt Nat.and_le_left hx
theorem or64 (x y:Nat) (hx:x < 18446744073709551616) (hy:y < 18446744073709551616):bOr .u64 (x:Int) (y:Int)=((x ||| y:Nat):Int):=by
 unfold bOr
 have e:(BitVec.ofInt (IntKind.bits .u64) (x:Int) ||| BitVec.ofInt (IntKind.bits .u64) (y:Int)).toNat=x ||| y:=by
  show (BitVec.ofInt 64 (x:Int) ||| BitVec.ofInt 64 (y:Int)).toNat=x ||| y
  rw [BitVec.toNat_or,bv64 x hx,bv64 y hy]
 rw [e,wu64n,Nat.mod_eq_of_lt]
 exact Nat.or_lt_two_pow (n:=64) hx hy
open Go Go.Proofs
def W8 (l:List Int):AV:=.s (.pl (.agg (.ints .u64 l) 8))
abbrev zero8:List Int:=[0,0,0,0,0,0,0,0]
def in64 (x:Int):Bool:=decide (0 <= x /\ x < 18446744073709551616)
end Go.Eng
