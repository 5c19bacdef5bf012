/- Texts of this claim, one behind the other: StrOk. -/
import Derived.Lib.Bytealg
import Derived.Shelf.Strings.OnBuilder
import Derived.Shelf.Strings.Repeat
import Derived.Test.YtkmlepkmhpigeaaEngNums
import Derived.Test.YtkmlepkmhpigeaaShelf1
import Derived.Test.YtkmlepkmhpigeaaZE3
/- The contracts of strings.Repeat, Join, HasPrefix, IndexByte: off the shelf. -/
namespace Go.Eng
open Go Go.Proofs
set_option linter.unusedVariables false
set_option linter.unusedSimpArgs false
def big47 : Nat := 140737488355328
def sRepeat : Summ where
  T := Str
  run := fun
    | [.c (.s (.pl (.str s))), .c (.s (.pl (.int .i64 n)))] => cond (decide (0 ≤ n) && decide (n ≤ 140737488355328) && Nat.ble (s.length * n.toNat) big47) (some (Lib.repeatL s n.toNat)) none
    | _ => none
  enc := fun t => .str t
def rRepeat : List AV → Option Str := sRepeat.run
/-- parts with one text between -/
def sJoin : Summ where
  T := Str
  run := fun
    | [.c (.s (.dat (.strs ss) n 1)), .c (.s (.pl (.str sep)))] => cond (Nat.beq n ss.length && Nat.ble ss.length big47 && Nat.ble (Lib.join ss sep).length big47) (some (Lib.join ss sep)) none
    | _ => none
  enc := fun t => .str t
def rJoin : List AV → Option Str := sJoin.run
def sHasPrefix : Summ where
  T := Bool
  run := fun
    | [.c (.s (.pl (.str s))), .c (.s (.pl (.str p)))] => some (Lib.hasPrefix s p)
    | _ => none
  enc := fun t => .bool t
def rHasPrefix : List AV → Option Bool := sHasPrefix.run
def sIndexByte : Summ where
  T := Int
  run := fun
    | [.c (.s (.pl (.str s))), .c (.s (.pl (.int .u8 c)))] => some (Lib.indexByte s c.toNat.toUInt8)
    | _ => none
  enc := fun t => .int .i64 t
def rIndexByte : List AV → Option Int := sIndexByte.run
theorem ctrueS {α : Type} {c : Bool} {x y : α} (h : cond c (some x) none = some y) : c = true ∧ x = y := by
  cases c
  · cases h
  · exact ⟨rfl, Option.some.inj h⟩
/-- a contract of the shelf: a string goes back -/
theorem fat_of_calls {P : Program} {f : FuncId} {fn : Func} {c : Code} {args : Array Value} {w : World} {R : Value → World → Prop} (hf : P.funcs[f]? = some fn) (hname : (fn.name == "runtime.NumGoroutine") = false) (hb : fn.body = some c)
    (h : Calls P f args w fun e w' => ∃ v, e = .returned v ∧ R v w') : FAt P f args w R := Or.inr ⟨run_enter hf hname hb _ _, h⟩
theorem avr_str (w : World) (ρ : Plc) (s : Str) : AVR w ρ (.str s) (.string ⟨s.toArray⟩) := ⟨rfl, fun r n e => by cases e⟩
theorem avrs2 {w : World} {ρ : Plc} {x y : AV} {vs : List Value} (h : AVRs w ρ [x, y] vs) : ∃ u v, vs = [u, v] ∧ AVR w ρ x u ∧ AVR w ρ y v := by
  match vs, h with
  | [u, v], h => exact ⟨u, v, rfl, h.1, h.2.1⟩
end Go.Eng
