/- The contracts of hmac and of its document: how they are told. -/
import Derived.Test.YtdhcaghdhaeebaaZS2
namespace Go.Eng
open Go Go.Proofs
set_option linter.unusedVariables false
set_option linter.unusedSimpArgs false
/-- a sum's bytes -/
def hS (s : Str) : Str := (up (sumB s)).map b8
/-- each byte turned by one -/
def maskS (s : Str) (x : Nat) : Str := s.map fun c => b8 ((c.toNat ^^^ x : Nat) : Int)
/-- a key, but its sum where it is longer than a block -/
def keyS (key : Str) : Str := if 128 < key.length then hS key else key
def wholeS (key : Str) : Str := keyS key ++ List.replicate (128 - (keyS key).length) 0
def hmacK (k t : Str) : Str := hS (maskS k 92 ++ hS (maskS k 54 ++ t))
def hmacS (key t : Str) : Str := hmacK (wholeS key) t
def four (i : Nat) : Str := [b8 ((i / 16777216 % 256 : Nat) : Int), b8 ((i / 65536 % 256 : Nat) : Int), b8 ((i / 256 % 256 : Nat) : Int), b8 ((i % 256 : Nat) : Int)]
/-- the first rounds of work -/
def stretchS (s : Str) : Nat → Str
  | 0 => s
  | i + 1 => hmacS (stretchS s i) (four i)
def okJ (ss : List Str) (n : Nat) : Bool := Nat.beq n ss.length && Nat.ble ss.length 1048000 && Nat.ble (Lib.join ss []).length 1099511620000
def okLen (s : Str) : Bool := Nat.ble s.length 1099511620000
def sMask : Summ where
  T := Str
  run := fun
    | [.c (.s (.pl (.str s))), .c (.s (.pl (.int .u8 x)))] => cond (okLen s && decide (0 ≤ x ∧ x < 256)) (some (maskS s x.toNat)) none
    | _ => none
  enc := fun t => .str t
def rMask : List AV → Option Str := sMask.run
def sWhole : Summ where
  T := Str
  run := fun
    | [.c (.s (.pl (.str s)))] => cond (okLen s) (some (wholeS s)) none
    | _ => none
  enc := fun t => .str t
def rWhole : List AV → Option Str := sWhole.run
def sPad : Summ where
  T := Str
  run := fun
    | [.c (.s (.pl (.str s))), .c (.s (.pl (.int .u8 x)))] => cond (okLen s && decide (0 ≤ x ∧ x < 256)) (some (maskS (wholeS s) x.toNat)) none
    | _ => none
  enc := fun t => .str t
def rPad : List AV → Option Str := sPad.run
def sKeyed : Summ where
  T := Str
  run := fun
    | [.c (.s (.pl (.str k))), .c (.s (.dat (.strs ss) n 1))] => cond (Nat.beq k.length 128 && okJ ss n) (some (hmacK k (Lib.join ss []))) none
    | _ => none
  enc := fun t => .str t
def rKeyed : List AV → Option Str := sKeyed.run
def sWith : Summ where
  T := Str
  run := fun
    | [.c (.s (.pl (.str s)))] => cond (okLen s) (some (wholeS s)) none
    | _ => none
  enc := fun t => .s (.clo n_hmac_keyed_sum [.str t] [])
def rWith : List AV → Option Str := sWith.run
def sHmac : Summ where
  T := Str
  run := fun
    | [.c (.s (.pl (.str k))), .c (.s (.dat (.strs ss) n 1))] => cond (okLen k && okJ ss n) (some (hmacS k (Lib.join ss []))) none
    | _ => none
  enc := fun t => .str t
def rHmac : List AV → Option Str := sHmac.run
def sStretch : Summ where
  T := Str
  run := fun
    | [.c (.s (.pl (.str s))), .c (.s (.pl (.int .i64 n)))] => cond (okLen s && decide (n < 4294967296)) (some (stretchS s n.toNat)) none
    | _ => none
  enc := fun t => .str t
def rStretch : List AV → Option Str := sStretch.run
def sRefHmac : Summ where
  T := Str
  run := fun
    | [.c (.s (.pl (.str k))), .c (.s (.pl (.str s)))] => cond (okLen k && okLen s) (some (hmacS k s)) none
    | _ => none
  enc := fun t => .str t
def rRefHmac : List AV → Option Str := sRefHmac.run
end Go.Eng
