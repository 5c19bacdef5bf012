/- Texts of this claim, one behind the other: WireS, GWi1, PWi1, EffGrow, GWi2, PWi2, PWi3. -/
import Derived.KernelRfl
import Derived.Shelf.Spec.SlicesGrow
import Derived.Test.YtdhcaghdhaeebaaEngNums
import Derived.Test.YtdhcaghdhaeebaaZL1
import Derived.Test.YtdhcaghdhaeebaaZL2
import Derived.Test.YtdhcaghdhaeebaaZS1
/- The contracts of wire and of its document: how they are told. -/
namespace Go.Eng
open Go Go.Proofs
set_option linter.unusedVariables false
set_option linter.unusedSimpArgs false
/-- a text cut into parts of these lengths, what was cut off before it -/
def cutS : Str → List Int → List Str → List Str × Int
  | s, [], out => cond (decide (s = [])) (out, 0) ([], 4)
  | s, n :: r, out => cond (decide ((s.length : Int) < n)) ([], 3) (cutS (s.drop n.toNat) r (out ++ [s.take n.toNat]))
def anyNeg (l : List Int) : Bool := l.any fun n => decide (n < 0)
def splitS (s : Str) (l : List Int) : List Str × Int := cond (anyNeg l) ([], 2) (cutS s l [])
def fitS : List Int → List Str → Bool
  | n :: r, p :: q => decide ((p.length : Int) = n) && fitS r q
  | _, _ => true
def joinS (l : List Int) (ps : List Str) : Str × Int := cond (Nat.beq l.length ps.length) (cond (fitS l ps) (ps.flatten, 0) ([], 4)) ([], 6)
def okLs (l : List Int) (n : Nat) : Bool := Nat.beq n l.length && Nat.ble l.length 1048576 && l.all fun x => decide (-9223372036854775808 ≤ x ∧ x < 9223372036854775808)
def okSs (l : List Str) (n : Nat) : Bool := Nat.beq n l.length && Nat.ble l.length 1048576 && Nat.ble l.flatten.length 1099511627776
def okS40 (s : Str) : Bool := Nat.ble s.length 1099511627776
def eSs (l : List Str) : AV := .s (.dat (.strs l) l.length 1)
def sSplit : Summ where
  T := List Str × Int
  run := fun
    | [.c (.s (.pl (.str s))), .c (.s (.dat (.ints .i64 l) n 1))] => cond (okS40 s && okLs l n) (some (splitS s l)) none
    | _ => none
  enc := fun t => .tup [.s (.dat (.strs t.1) t.1.length 1), .s (.pl (.int .i64 t.2))]
def rSplit : List AV → Option (List Str × Int) := sSplit.run
def sJoinW : Summ where
  T := Str × Int
  run := fun
    | [.c (.s (.dat (.ints .i64 l) n 1)), .c (.s (.dat (.strs ps) m 1))] => cond (okLs l n && okSs ps m) (some (joinS l ps)) none
    | _ => none
  enc := fun t => .tup [.s (.pl (.str t.1)), .s (.pl (.int .i64 t.2))]
def rJoinW : List AV → Option (Str × Int) := sJoinW.run
def sEqSs : Summ where
  T := Bool
  run := fun
    | [.c (.s (.dat (.strs a) n 1)), .c (.s (.dat (.strs b) m 1))] => cond (Nat.beq n a.length && Nat.beq m b.length && Nat.ble a.length 1048576) (some (decide (a = b))) none
    | _ => none
  enc := fun t => .bool t
def rEqSs : List AV → Option Bool := sEqSs.run
def minL : Int → List Int → Int
  | x, [] => x
  | x, y :: r => minL (if y < x then y else x) r
def sMin : Summ where
  T := Int
  run := fun
    | [.c (.s (.dat (.ints .i64 (x :: l)) n 1))] => cond (okLs (x :: l) n) (some (minL x l)) none
    | _ => none
  enc := fun t => .int .i64 t
def rMin : List AV → Option Int := sMin.run
/-- the messages' lengths -/
def szOf : Int → List Int
  | 0 => [32]
  | 1 => [32, 32]
  | 2 => [32, 64, 96]
  | 3 => [32, 32, 32]
  | 4 => [32, 32, 128, 32, 32, 64]
  | _ => [64]
def sSizes : Summ where
  T := List Int
  run := fun
    | [.c (.s (.pl (.int .i64 m)))] => some (szOf m)
    | _ => none
  enc := fun t => .s (.dat (.ints .i64 t) t.length 1)
def rSizes : List AV → Option (List Int) := sSizes.run
/-- a row of lengths -/
def sRowOf (l : List Int) : Summ where
  T := Unit
  run := fun
    | [] => some ()
    | _ => none
  enc := fun _ => .s (.dat (.ints .i64 l) l.length 1)
/-- a message's bytes -/
def runMsg (k : Nat) (l : List Int) : List AV → Option (Str × Int)
  | [.c (.s (.pl (.agg (.strs ss) n)))] => cond (Nat.beq n k && Nat.beq ss.length k && Nat.ble ss.flatten.length 1099511627776) (some (joinS l ss)) none
  | _ => none
def sMsg (k : Nat) (l : List Int) : Summ := { T := Str × Int, run := runMsg k l, enc := fun t => .tup [.s (.pl (.str t.1)), .s (.pl (.int .i64 t.2))] }
/-- a message of its parts -/
def runMk (k : Nat) : List AV → Option (List Str)
  | [.c (.s (.dat (.strs l) n 1))] => cond (Nat.beq l.length k && Nat.beq n k) (some l) none
  | _ => none
def sMk (k : Nat) : Summ := { T := List Str, run := runMk k, enc := fun t => .s (.pl (.agg (.strs t) k)) }
def parseW (l : List Int) (s : Str) : List Str × Int := cond (decide ((splitS s l).2 = 0)) ((splitS s l).1, 0) (List.replicate l.length [], (splitS s l).2)
def runPM (l : List Int) : List AV → Option (List Str × Int)
  | [.c (.s (.pl (.str s)))] => cond (okS40 s) (some (parseW l s)) none
  | _ => none
def sPM (k : Nat) (l : List Int) : Summ := { T := List Str × Int, run := runPM l, enc := fun t => .tup [.s (.pl (.agg (.strs t.1) k)), .s (.pl (.int .i64 t.2))] }
def runRd (f : Nat) (l : List Int) : List AV → Option (List Str × Int)
  | [.c (.s (.pl (.str s))), .c (.s (.dat (.ints .i64 a) n 1)), .c (.s (.clo g [] []))] => cond (okS40 s && decide (a = l) && Nat.beq n l.length && Nat.beq g f) (some (parseW l s)) none
  | _ => none
/-- read, of one kind -/
def sRd (f k : Nat) (l : List Int) : Summ := { T := List Str × Int, run := runRd f l, enc := fun t => .tup [.s (.pl (.agg (.strs t.1) k)), .s (.pl (.int .i64 t.2))] }
def sWB1 : Summ := sMsg 1 [32]
def rWB1 : List AV → Option (Str × Int) := runMsg 1 [32]
def sWP1 : Summ := sPM 1 [32]
def rWP1 : List AV → Option (List Str × Int) := runPM [32]
def sWM1 : Summ := sMk 1
def rWM1 : List AV → Option (List Str) := runMk 1
def sWR1 : Summ := sRd n_wire_ParseRequest_1 1 [32]
def rWR1 : List AV → Option (List Str × Int) := runRd n_wire_ParseRequest_1 [32]
def sWZ1 : Summ := sRowOf [32]
def rWZ1 : List AV → Option Unit := (sRowOf [32]).run
def sWB2 : Summ := sMsg 2 [32, 32]
def rWB2 : List AV → Option (Str × Int) := runMsg 2 [32, 32]
def sWP2 : Summ := sPM 2 [32, 32]
def rWP2 : List AV → Option (List Str × Int) := runPM [32, 32]
def sWM2 : Summ := sMk 2
def rWM2 : List AV → Option (List Str) := runMk 2
def sWR2 : Summ := sRd n_wire_ParseResponse_1 2 [32, 32]
def rWR2 : List AV → Option (List Str × Int) := runRd n_wire_ParseResponse_1 [32, 32]
def sWZ2 : Summ := sRowOf [32, 32]
def rWZ2 : List AV → Option Unit := (sRowOf [32, 32]).run
def sWB3 : Summ := sMsg 3 [32, 64, 96]
def rWB3 : List AV → Option (Str × Int) := runMsg 3 [32, 64, 96]
def sWP3 : Summ := sPM 3 [32, 64, 96]
def rWP3 : List AV → Option (List Str × Int) := runPM [32, 64, 96]
def sWM3 : Summ := sMk 3
def rWM3 : List AV → Option (List Str) := runMk 3
def sWR3 : Summ := sRd n_wire_ParseRecord_1 3 [32, 64, 96]
def rWR3 : List AV → Option (List Str × Int) := runRd n_wire_ParseRecord_1 [32, 64, 96]
def sWZ3 : Summ := sRowOf [32, 64, 96]
def rWZ3 : List AV → Option Unit := (sRowOf [32, 64, 96]).run
def sWB4 : Summ := sMsg 3 [32, 32, 32]
def rWB4 : List AV → Option (Str × Int) := runMsg 3 [32, 32, 32]
def sWP4 : Summ := sPM 3 [32, 32, 32]
def rWP4 : List AV → Option (List Str × Int) := runPM [32, 32, 32]
def sWM4 : Summ := sMk 3
def rWM4 : List AV → Option (List Str) := runMk 3
def sWR4 : Summ := sRd n_wire_ParseKE1_1 3 [32, 32, 32]
def rWR4 : List AV → Option (List Str × Int) := runRd n_wire_ParseKE1_1 [32, 32, 32]
def sWZ4 : Summ := sRowOf [32, 32, 32]
def rWZ4 : List AV → Option Unit := (sRowOf [32, 32, 32]).run
def sWB5 : Summ := sMsg 6 [32, 32, 128, 32, 32, 64]
def rWB5 : List AV → Option (Str × Int) := runMsg 6 [32, 32, 128, 32, 32, 64]
def sWP5 : Summ := sPM 6 [32, 32, 128, 32, 32, 64]
def rWP5 : List AV → Option (List Str × Int) := runPM [32, 32, 128, 32, 32, 64]
def sWM5 : Summ := sMk 6
def rWM5 : List AV → Option (List Str) := runMk 6
def sWR5 : Summ := sRd n_wire_ParseKE2_1 6 [32, 32, 128, 32, 32, 64]
def rWR5 : List AV → Option (List Str × Int) := runRd n_wire_ParseKE2_1 [32, 32, 128, 32, 32, 64]
def sWZ5 : Summ := sRowOf [32, 32, 128, 32, 32, 64]
def rWZ5 : List AV → Option Unit := (sRowOf [32, 32, 128, 32, 32, 64]).run
def sWB6 : Summ := sMsg 1 [64]
def rWB6 : List AV → Option (Str × Int) := runMsg 1 [64]
def sWP6 : Summ := sPM 1 [64]
def rWP6 : List AV → Option (List Str × Int) := runPM [64]
def sWM6 : Summ := sMk 1
def rWM6 : List AV → Option (List Str) := runMk 1
def sWR6 : Summ := sRd n_wire_ParseKE3_1 1 [64]
def rWR6 : List AV → Option (List Str × Int) := runRd n_wire_ParseKE3_1 [64]
def sWZ6 : Summ := sRowOf [64]
def rWZ6 : List AV → Option Unit := (sRowOf [64]).run
def sAns : Summ where
  T := Str
  run := fun
    | [.c (.s (.pl (.agg (.strs [a, b, c, d, e, f]) 6)))] => cond (decide (a.length + b.length + c.length ≤ 1099511627776)) (some (a ++ b ++ c)) none
    | _ => none
  enc := fun t => .str t
def rAns : List AV → Option Str := sAns.run
def okCt (l : List Str) (n : Nat) : Bool := Nat.beq n l.length && Nat.ble l.length 1048576
def sConc : Summ where
  T := List Str
  run := fun
    | [.c (.mdat [.dat (.strs a) n 1])] => cond (okCt a n) (some a) none
    | [.c (.mdat [.dat (.strs a) n 1, .dat (.strs b) m 1])] => cond (okCt a n && okCt b m) (some (a ++ b)) none
    | _ => none
  enc := fun t => .s (.dat (.strs t) t.length 1)
def rConc : List AV → Option (List Str) := sConc.run
/-- what a message's text comes to, and its parts again -/
def partsA (s : Str) (m : Int) : (List Str × Str) × (Int × Int) := (((parseW (szOf m) s).1, (joinS (szOf m) (parseW (szOf m) s).1).1), ((parseW (szOf m) s).2, (joinS (szOf m) (parseW (szOf m) s).1).2))
def sPartsW : Summ where
  T := (List Str × Str) × (Int × Int)
  run := fun
    | [.c (.s (.pl (.str s))), .c (.s (.pl (.int .i64 m)))] => cond (okS40 s) (some (partsA s m)) none
    | _ => none
  enc := fun t => .tup [.s (.dat (.strs t.1.1) t.1.1.length 1), .s (.pl (.str t.1.2)), .s (.pl (.int .i64 t.2.1)), .s (.pl (.int .i64 t.2.2))]
def rPartsW : List AV → Option ((List Str × Str) × (Int × Int)) := sPartsW.run
/-- slices.Grow of a row that is none: an own row with nothing in it -/
def effGrow : Eff1 := fun args s =>
  match args with
  | [.c (.s (.pl (.raw (.slice none 0 0)))), .c (.s (.pl (.int .i64 n)))] => some (decide (0 ≤ n ∧ n ≤ 1099511627776), .s (.own s.nx 0 1), { s with hp := (s.nx, { ty := 9, n := 0, row := .t (.strs []) }) :: s.hp, nx := s.nx + 1 })
  | _ => none
end Go.Eng
/- GENERATED by gen.py: what the evaluator comes to at these functions. -/
namespace Go.Eng
open Go Go.Proofs
set_option linter.unusedVariables false
set_option linter.unusedSimpArgs false
noncomputable def g_WiEq : Cg := ⟨⟨gam [], [], noE⟩, [(5, [0, 1, 12, 13], [4])]⟩
noncomputable def WiEq_s1 (x0 : List Str) (n0 : Nat) (x1 : List Str) (n1 : Nat) (v12 v13 : Int) : St :=
  { tm := [((0 : Nat), AV.s (SV.dat (TRow.strs x0) n0 (1 : Nat))), ((1 : Nat), AV.s (SV.dat (TRow.strs x1) n1 (1 : Nat))), ((12 : Nat), AV.int IntKind.i64 v12), ((13 : Nat), AV.int IntKind.i64 v13)], hp := [], nx := (0 : Nat), sz := (26 : Nat) }
noncomputable def WiEq_b1 : Code := bodyL (codeAt [1, 1, 0, 1, 2] (codeF f_slices_Equal__string_string))
noncomputable def WiEq_k1 (fu : Nat) := kAt prog g_WiEq fu [1, 1, 0, 1, 2] (codeF f_slices_Equal__string_string) (kFin prog f_slices_Equal__string_string)
noncomputable abbrev WiEq_L1 (fu : Nat) (x0 : List Str) (n0 : Nat) (x1 : List Str) (n1 : Nat) (v12 v13 : Int) := lpA prog g_WiEq fu WiEq_b1 (WiEq_k1 fu ) fu (some (WiEq_s1 x0 n0 x1 n1 v12 v13))
theorem WiEq_ev (fu : Nat) (a : List Str) (n : Nat) (b : List Str) (m : Nat) : afunc prog f_slices_Equal__string_string g_WiEq fu [AV.s (SV.dat (TRow.strs a) n (1 : Nat)), AV.s (SV.dat (TRow.strs b) m (1 : Nat))] =
  bif !decide ((↑n : Int) = (↑m : Int)) then some (AV.bool false) else WiEq_L1 fu a n b m (↑n : Int) (0 : Int) := by kernel_rfl
noncomputable def WiEq_o1r (b4 : Bool) : St :=
  { tm := [((4 : Nat), AV.bool b4)], hp := [], nx := (0 : Nat), sz := (26 : Nat) }
noncomputable def WiEq_o1e0 : St :=
  { tm := [((4 : Nat), AV.s SV.junk)], hp := [], nx := (0 : Nat), sz := (26 : Nat) }
theorem WiEq_r1 {β : Type} (fu : Nat) (G : Option St → Option β) (H : Ex → Option St → Option β) (x0 : List Str) (n0 : Nat) (x1 : List Str) (n1 : Nat) (v12 v13 : Int) : lpR prog g_WiEq fu WiEq_b1 G H (WiEq_s1 x0 n0 x1 n1 v12 v13) =
  bif decide (v13 < v12) then
    bif decide ((0 : Int) ≤ v13 ∧ v13 < (↑n0 : Int)) then
      bif decide ((0 : Int) ≤ v13 ∧ v13 < (↑n1 : Int)) then
        bif !decide (x0.getD v13.toNat [] = x1.getD v13.toNat []) then H Ex.ret (some (WiEq_o1r false)) else G (some (WiEq_s1 x0 n0 x1 n1 v12 (IntKind.i64.wrap (v13 + (1 : Int)))))
      else none
    else none
  else H (Ex.exit (0 : Nat)) (some WiEq_o1e0) := by kernel_rfl
theorem WiEq_c1r (fu : Nat) (b4 : Bool) : WiEq_k1 fu  Ex.ret (WiEq_o1r b4) =
  some (AV.bool b4) := by kernel_rfl
theorem WiEq_c1e0 (fu : Nat) : WiEq_k1 fu  (Ex.exit 0) (WiEq_o1e0 ) =
  some (AV.bool true) := by kernel_rfl
noncomputable def g_WiMi : Cg := ⟨⟨gam [], [], noE⟩, [(6, [0, 3, 4], [3])]⟩
noncomputable def WiMi_s1 (x0 : List Int) (n0 : Nat) (v3 v4 : Int) : St :=
  { tm := [((0 : Nat), AV.s (SV.dat (TRow.ints IntKind.i64 x0) n0 (1 : Nat))), ((3 : Nat), AV.int IntKind.i64 v3), ((4 : Nat), AV.int IntKind.i64 v4)], hp := [], nx := (0 : Nat), sz := (25 : Nat) }
noncomputable def WiMi_b1 : Code := bodyL (codeAt [1, 1, 1, 0, 1, 2] (codeF f_slices_Min__int_int))
noncomputable def WiMi_k1 (fu : Nat) := kAt prog g_WiMi fu [1, 1, 1, 0, 1, 2] (codeF f_slices_Min__int_int) (kFin prog f_slices_Min__int_int)
noncomputable abbrev WiMi_L1 (fu : Nat) (x0 : List Int) (n0 : Nat) (v3 v4 : Int) := lpA prog g_WiMi fu WiMi_b1 (WiMi_k1 fu ) fu (some (WiMi_s1 x0 n0 v3 v4))
theorem WiMi_ev (fu : Nat) (a : List Int) (n : Nat) : afunc prog f_slices_Min__int_int g_WiMi fu [AV.s (SV.dat (TRow.ints IntKind.i64 a) n (1 : Nat))] =
  bif decide ((↑n : Int) < (1 : Int)) then none else bif decide ((0 : Int) ≤ (0 : Int) ∧ (0 : Int) < (↑n : Int)) then WiMi_L1 fu a n (a.getD (0 : Nat) (0 : Int)) (1 : Int) else none := by kernel_rfl
noncomputable def WiMi_o1e0 (v3 : Int) : St :=
  { tm := [((3 : Nat), AV.int IntKind.i64 v3)], hp := [], nx := (0 : Nat), sz := (25 : Nat) }
theorem WiMi_r1 {β : Type} (fu : Nat) (G : Option St → Option β) (H : Ex → Option St → Option β) (x0 : List Int) (n0 : Nat) (v3 v4 : Int) : lpR prog g_WiMi fu WiMi_b1 G H (WiMi_s1 x0 n0 v3 v4) =
  bif decide (v4 < (↑n0 : Int)) then
    bif decide ((0 : Int) ≤ v4 ∧ v4 < (↑n0 : Int)) then G (some (WiMi_s1 x0 n0 (if x0.getD v4.toNat (0 : Int) < v3 then x0.getD v4.toNat (0 : Int) else v3) (IntKind.i64.wrap (v4 + (1 : Int)))))
    else none
  else H (Ex.exit (0 : Nat)) (some (WiMi_o1e0 v3)) := by kernel_rfl
theorem WiMi_c1e0 (fu : Nat) (v3 : Int) : WiMi_k1 fu  (Ex.exit 0) (WiMi_o1e0 v3) =
  some (AV.int IntKind.i64 v3) := by kernel_rfl
noncomputable def g_WiSp (T0 : Type) (R0 : List AV → Option T0) (f0a : T0 → Int) : Cg := ⟨⟨gam [(n_slices_Min__int_int, ⟨R0, fun t => AV.int IntKind.i64 (f0a t)⟩)], [6], noE⟩, [(6, [0, 6, 17, 18, 19], [0, 4, 5, 6])]⟩
section
variable (T0 : Type) (R0 : List AV → Option T0) (f0a : T0 → Int)
noncomputable def WiSp_s1 (s0 : Str) (n6 : Nat) (x17 : List Int) (n17 : Nat) (v18 v19 : Int) (m_0 : Nat) (x_0 : List Str) : St :=
  { tm := [((0 : Nat), AV.str s0), ((6 : Nat), AV.s (SV.own (0 : Nat) n6 (1 : Nat))), ((17 : Nat), AV.s (SV.dat (TRow.ints IntKind.i64 x17) n17 (1 : Nat))), ((18 : Nat), AV.int IntKind.i64 v18), ((19 : Nat), AV.int IntKind.i64 v19)], hp := [((0 : Nat), { ty := (9 : Nat), n := m_0, row := Row.t (TRow.strs x_0) })], nx := (1 : Nat), sz := (40 : Nat) }
noncomputable def WiSp_b1 : Code := bodyL (codeAt [1, 1, 1, 0, 1, 2] (codeF f_wire_Split))
noncomputable def WiSp_k1 (fu : Nat) := kAt prog (g_WiSp T0 R0 f0a) fu [1, 1, 1, 0, 1, 2] (codeF f_wire_Split) (kFin prog f_wire_Split)
noncomputable abbrev WiSp_L1 (fu : Nat) (s0 : Str) (n6 : Nat) (x17 : List Int) (n17 : Nat) (v18 v19 : Int) (m_0 : Nat) (x_0 : List Str) := lpA prog (g_WiSp T0 R0 f0a) fu WiSp_b1 (WiSp_k1 T0 R0 f0a fu ) fu (some (WiSp_s1 s0 n6 x17 n17 v18 v19 m_0 x_0))
theorem WiSp_ev (fu : Nat) (s : Str) (a : List Int) (n : Nat) : afunc prog f_wire_Split (g_WiSp T0 R0 f0a) fu [AV.str s, AV.s (SV.dat (TRow.ints IntKind.i64 a) n (1 : Nat))] =
  bif decide ((0 : Int) < (↑n : Int)) then
    (R0 [AV.s (SV.dat (TRow.ints IntKind.i64 a) n (1 : Nat))]).bind fun (t : T0) =>
      bif decide (f0a t < (0 : Int)) then some (AV.tup [CV.s (SV.dat (TRow.strs []) (0 : Nat) (1 : Nat)), CV.s (SV.pl (Pl.int IntKind.i64 (2 : Int)))])
      else WiSp_L1 T0 R0 f0a fu s (0 : Nat) a n (↑n : Int) (0 : Int) (0 : Nat) []
  else WiSp_L1 T0 R0 f0a fu s (0 : Nat) a n (↑n : Int) (0 : Int) (0 : Nat) [] := by kernel_rfl
noncomputable def WiSp_o1r (s0 : Str) (x4 : List Str) (n4 : Nat) (v5 : Int) (n6 m_0 : Nat) (x_0 : List Str) : St :=
  { tm := [((0 : Nat), AV.str s0), ((4 : Nat), AV.s (SV.dat (TRow.strs x4) n4 (1 : Nat))), ((5 : Nat), AV.int IntKind.i64 v5), ((6 : Nat), AV.s (SV.own (0 : Nat) n6 (1 : Nat)))], hp := [((0 : Nat), { ty := (9 : Nat), n := m_0, row := Row.t (TRow.strs x_0) })], nx := (1 : Nat), sz := (40 : Nat) }
noncomputable def WiSp_o1e0 (s0 : Str) (n6 m_0 : Nat) (x_0 : List Str) : St :=
  { tm := [((0 : Nat), AV.str s0), ((4 : Nat), AV.s SV.junk), ((5 : Nat), AV.s SV.junk), ((6 : Nat), AV.s (SV.own (0 : Nat) n6 (1 : Nat)))], hp := [((0 : Nat), { ty := (9 : Nat), n := m_0, row := Row.t (TRow.strs x_0) })], nx := (1 : Nat), sz := (40 : Nat) }
theorem WiSp_r1 {β : Type} (fu : Nat) (G : Option St → Option β) (H : Ex → Option St → Option β) (s0 : Str) (n6 : Nat) (x17 : List Int) (n17 : Nat) (v18 v19 : Int) (m_0 : Nat) (x_0 : List Str) : lpR prog (g_WiSp T0 R0 f0a) fu WiSp_b1 G H (WiSp_s1 s0 n6 x17 n17 v18 v19 m_0 x_0) =
  bif decide (v19 < v18) then
    bif decide ((0 : Int) ≤ v19 ∧ v19 < (↑n17 : Int)) then
      bif decide ((↑(List.length s0) : Int) < x17.getD v19.toNat (0 : Int)) then H Ex.ret (some (WiSp_o1r s0 [] (0 : Nat) (3 : Int) n6 m_0 x_0))
      else
        bif decide ((0 : Int) ≤ (0 : Int) ∧ (0 : Int) ≤ x17.getD v19.toNat (0 : Int) ∧ x17.getD v19.toNat (0 : Int) ≤ (↑(List.length s0) : Int)) then
          bif decide (n6 + (1 : Nat) ≤ (1099511627776 : Nat)) then
            bif decide ((0 : Int) ≤ x17.getD v19.toNat (0 : Int) ∧ x17.getD v19.toNat (0 : Int) ≤ (↑(List.length s0) : Int) ∧ (↑(List.length s0) : Int) ≤ (↑(List.length s0) : Int)) then
              G
                (some
                  (WiSp_s1 (sl s0 (x17.getD v19.toNat (0 : Int)) (↑(List.length s0) : Int)) (n6 + (1 : Nat)) x17 n17 v18 (IntKind.i64.wrap (v19 + (1 : Int))) ((n6 + (1 : Nat)) * (1 : Nat))
                    (x_0 ++ [sl s0 (0 : Int) (x17.getD v19.toNat (0 : Int))])))
            else none
          else none
        else none
    else none
  else H (Ex.exit (0 : Nat)) (some (WiSp_o1e0 s0 n6 m_0 x_0)) := by kernel_rfl
theorem WiSp_c1r (fu : Nat) (s0 : Str) (x4 : List Str) (n4 : Nat) (v5 : Int) (n6 m_0 : Nat) (x_0 : List Str) : WiSp_k1 T0 R0 f0a fu  Ex.ret (WiSp_o1r s0 x4 n4 v5 n6 m_0 x_0) =
  some (AV.tup [CV.s (SV.dat (TRow.strs x4) n4 (1 : Nat)), CV.s (SV.pl (Pl.int IntKind.i64 v5))]) := by kernel_rfl
theorem WiSp_c1e0 (fu : Nat) (s0 : Str) (n6 m_0 : Nat) (x_0 : List Str) : WiSp_k1 T0 R0 f0a fu  (Ex.exit 0) (WiSp_o1e0 s0 n6 m_0 x_0) =
  bif !decide (s0 = []) then some (AV.tup [CV.s (SV.dat (TRow.strs []) (0 : Nat) (1 : Nat)), CV.s (SV.pl (Pl.int IntKind.i64 (4 : Int)))])
  else some (AV.tup [CV.s (SV.dat (TRow.strs x_0) n6 (1 : Nat)), CV.s (SV.pl (Pl.int IntKind.i64 (0 : Int)))]) := by kernel_rfl
end
noncomputable def g_WrSp : Cg := ⟨⟨gam [], [9], noE⟩, [(4, [0, 1, 6, 13, 14, 15], [0, 1, 4, 5, 6]), (18, [0, 9, 10, 41, 42, 43], [9])]⟩
noncomputable def WrSp_s1 (s0 : Str) (x1 : List Int) (n1 : Nat) (v6 : Int) (x13 : List Int) (n13 : Nat) (v14 v15 : Int) : St :=
  { tm := [((0 : Nat), AV.str s0), ((1 : Nat), AV.s (SV.dat (TRow.ints IntKind.i64 x1) n1 (1 : Nat))), ((6 : Nat), AV.int IntKind.i64 v6), ((13 : Nat), AV.s (SV.dat (TRow.ints IntKind.i64 x13) n13 (1 : Nat))), ((14 : Nat), AV.int IntKind.i64 v14), ((15 : Nat), AV.int IntKind.i64 v15)], hp := [], nx := (0 : Nat), sz := (61 : Nat) }
noncomputable def WrSp_b1 : Code := bodyL (codeAt [1, 1, 0, 1, 2] (codeF f_opalineref11_Split))
noncomputable def WrSp_k1 (fu : Nat) := kAt prog g_WrSp fu [1, 1, 0, 1, 2] (codeF f_opalineref11_Split) (kFin prog f_opalineref11_Split)
noncomputable abbrev WrSp_L1 (fu : Nat) (s0 : Str) (x1 : List Int) (n1 : Nat) (v6 : Int) (x13 : List Int) (n13 : Nat) (v14 v15 : Int) := lpA prog g_WrSp fu WrSp_b1 (WrSp_k1 fu ) fu (some (WrSp_s1 s0 x1 n1 v6 x13 n13 v14 v15))
theorem WrSp_ev (fu : Nat) (s : Str) (a : List Int) (n : Nat) : afunc prog f_opalineref11_Split g_WrSp fu [AV.str s, AV.s (SV.dat (TRow.ints IntKind.i64 a) n (1 : Nat))] =
  WrSp_L1 fu s a n (0 : Int) a n (↑n : Int) (0 : Int) := by kernel_rfl
noncomputable def WrSp_o1r (s0 : Str) (x1 : List Int) (n1 : Nat) (x4 : List Str) (n4 : Nat) (v5 v6 : Int) : St :=
  { tm := [((0 : Nat), AV.str s0), ((1 : Nat), AV.s (SV.dat (TRow.ints IntKind.i64 x1) n1 (1 : Nat))), ((4 : Nat), AV.s (SV.dat (TRow.strs x4) n4 (1 : Nat))), ((5 : Nat), AV.int IntKind.i64 v5), ((6 : Nat), AV.int IntKind.i64 v6)], hp := [], nx := (0 : Nat), sz := (61 : Nat) }
noncomputable def WrSp_o1e0 (s0 : Str) (x1 : List Int) (n1 : Nat) (v6 : Int) : St :=
  { tm := [((0 : Nat), AV.str s0), ((1 : Nat), AV.s (SV.dat (TRow.ints IntKind.i64 x1) n1 (1 : Nat))), ((4 : Nat), AV.s SV.junk), ((5 : Nat), AV.s SV.junk), ((6 : Nat), AV.int IntKind.i64 v6)], hp := [], nx := (0 : Nat), sz := (61 : Nat) }
theorem WrSp_r1 {β : Type} (fu : Nat) (G : Option St → Option β) (H : Ex → Option St → Option β) (s0 : Str) (x1 : List Int) (n1 : Nat) (v6 : Int) (x13 : List Int) (n13 : Nat) (v14 v15 : Int) : lpR prog g_WrSp fu WrSp_b1 G H (WrSp_s1 s0 x1 n1 v6 x13 n13 v14 v15) =
  bif decide (v15 < v14) then
    bif decide ((0 : Int) ≤ v15 ∧ v15 < (↑n13 : Int)) then
      bif decide (x13.getD v15.toNat (0 : Int) < (0 : Int)) then H Ex.ret (some (WrSp_o1r s0 x1 n1 [] (0 : Nat) (2 : Int) v6))
      else
        bif decide (v6 ≤ (↑(List.length s0) : Int)) then
          G
            (some
              (WrSp_s1 s0 x1 n1
                (IntKind.i64.wrap
                  (v6 +
                    if IntKind.i64.wrap ((↑(List.length s0) : Int) + (1 : Int)) < x13.getD v15.toNat (0 : Int) then IntKind.i64.wrap ((↑(List.length s0) : Int) + (1 : Int))
                    else x13.getD v15.toNat (0 : Int)))
                x13 n13 v14 (IntKind.i64.wrap (v15 + (1 : Int)))))
        else G (some (WrSp_s1 s0 x1 n1 v6 x13 n13 v14 (IntKind.i64.wrap (v15 + (1 : Int)))))
    else none
  else H (Ex.exit (0 : Nat)) (some (WrSp_o1e0 s0 x1 n1 v6)) := by kernel_rfl
theorem WrSp_c1r (fu : Nat) (s0 : Str) (x1 : List Int) (n1 : Nat) (x4 : List Str) (n4 : Nat) (v5 v6 : Int) : WrSp_k1 fu  Ex.ret (WrSp_o1r s0 x1 n1 x4 n4 v5 v6) =
  some (AV.tup [CV.s (SV.dat (TRow.strs x4) n4 (1 : Nat)), CV.s (SV.pl (Pl.int IntKind.i64 v5))]) := by kernel_rfl
noncomputable def WrSp_s2 (s0 : Str) (n9 : Nat) (v10 : Int) (x41 : List Int) (n41 : Nat) (v42 v43 : Int) (m_0 : Nat) (x_0 : List Str) : St :=
  { tm := [((0 : Nat), AV.str s0), ((9 : Nat), AV.s (SV.own (0 : Nat) n9 (1 : Nat))), ((10 : Nat), AV.int IntKind.i64 v10), ((41 : Nat), AV.s (SV.dat (TRow.ints IntKind.i64 x41) n41 (1 : Nat))), ((42 : Nat), AV.int IntKind.i64 v42), ((43 : Nat), AV.int IntKind.i64 v43)], hp := [((0 : Nat), { ty := (9 : Nat), n := m_0, row := Row.t (TRow.strs x_0) })], nx := (1 : Nat), sz := (61 : Nat) }
noncomputable def WrSp_b2 : Code := bodyL (codeAt [1, 1, 1, 1, 1, 1, 1, 0, 1, 2] (codeF f_opalineref11_Split))
noncomputable def WrSp_k2 (fu : Nat) := kAt prog g_WrSp fu [1, 1, 1, 1, 1, 1, 1, 0, 1, 2] (codeF f_opalineref11_Split) (kFin prog f_opalineref11_Split)
noncomputable abbrev WrSp_L2 (fu : Nat) (s0 : Str) (n9 : Nat) (v10 : Int) (x41 : List Int) (n41 : Nat) (v42 v43 : Int) (m_0 : Nat) (x_0 : List Str) := lpA prog g_WrSp fu WrSp_b2 (WrSp_k2 fu ) fu (some (WrSp_s2 s0 n9 v10 x41 n41 v42 v43 m_0 x_0))
theorem WrSp_c1e0 (fu : Nat) (s0 : Str) (x1 : List Int) (n1 : Nat) (v6 : Int) : WrSp_k1 fu  (Ex.exit 0) (WrSp_o1e0 s0 x1 n1 v6) =
  bif decide ((↑(List.length s0) : Int) < v6) then some (AV.tup [CV.s (SV.dat (TRow.strs []) (0 : Nat) (1 : Nat)), CV.s (SV.pl (Pl.int IntKind.i64 (3 : Int)))])
  else
    bif decide (v6 < (↑(List.length s0) : Int)) then some (AV.tup [CV.s (SV.dat (TRow.strs []) (0 : Nat) (1 : Nat)), CV.s (SV.pl (Pl.int IntKind.i64 (4 : Int)))])
    else WrSp_L2 fu s0 (0 : Nat) (0 : Int) x1 n1 (↑n1 : Int) (0 : Int) (0 : Nat) [] := by kernel_rfl
noncomputable def WrSp_o2e2 (n9 m_0 : Nat) (x_0 : List Str) : St :=
  { tm := [((9 : Nat), AV.s (SV.own (0 : Nat) n9 (1 : Nat)))], hp := [((0 : Nat), { ty := (9 : Nat), n := m_0, row := Row.t (TRow.strs x_0) })], nx := (1 : Nat), sz := (61 : Nat) }
theorem WrSp_r2 {β : Type} (fu : Nat) (G : Option St → Option β) (H : Ex → Option St → Option β) (s0 : Str) (n9 : Nat) (v10 : Int) (x41 : List Int) (n41 : Nat) (v42 v43 : Int) (m_0 : Nat) (x_0 : List Str) : lpR prog g_WrSp fu WrSp_b2 G H (WrSp_s2 s0 n9 v10 x41 n41 v42 v43 m_0 x_0) =
  bif decide (v43 < v42) then
    bif decide ((0 : Int) ≤ v43 ∧ v43 < (↑n41 : Int)) then
      bif decide ((0 : Int) ≤ v10 ∧ v10 ≤ IntKind.i64.wrap (v10 + x41.getD v43.toNat (0 : Int)) ∧ IntKind.i64.wrap (v10 + x41.getD v43.toNat (0 : Int)) ≤ (↑(List.length s0) : Int)) then
        bif decide (n9 + (1 : Nat) ≤ (1099511627776 : Nat)) then
          G
            (some
              (WrSp_s2 s0 (n9 + (1 : Nat)) (IntKind.i64.wrap (v10 + x41.getD v43.toNat (0 : Int))) x41 n41 v42 (IntKind.i64.wrap (v43 + (1 : Int))) ((n9 + (1 : Nat)) * (1 : Nat))
                (x_0 ++ [sl s0 v10 (IntKind.i64.wrap (v10 + x41.getD v43.toNat (0 : Int)))])))
        else none
      else none
    else none
  else H (Ex.exit (2 : Nat)) (some (WrSp_o2e2 n9 m_0 x_0)) := by kernel_rfl
theorem WrSp_c2e2 (fu : Nat) (n9 m_0 : Nat) (x_0 : List Str) : WrSp_k2 fu  (Ex.exit 2) (WrSp_o2e2 n9 m_0 x_0) =
  some (AV.tup [CV.s (SV.dat (TRow.strs x_0) n9 (1 : Nat)), CV.s (SV.pl (Pl.int IntKind.i64 (0 : Int)))]) := by kernel_rfl
noncomputable def g_WiJo (T0 : Type) (R0 : List AV → Option T0) (f0a : T0 → List UInt8) : Cg := ⟨⟨gam [(n_strings_Join, ⟨R0, fun t => AV.str (f0a t)⟩)], [], noE⟩, [(5, [1, 13, 14, 15], [1, 4, 5])]⟩
section
variable (T0 : Type) (R0 : List AV → Option T0) (f0a : T0 → List UInt8)
noncomputable def WiJo_s1 (x1 : List Str) (n1 : Nat) (x13 : List Int) (n13 : Nat) (v14 v15 : Int) : St :=
  { tm := [((1 : Nat), AV.s (SV.dat (TRow.strs x1) n1 (1 : Nat))), ((13 : Nat), AV.s (SV.dat (TRow.ints IntKind.i64 x13) n13 (1 : Nat))), ((14 : Nat), AV.int IntKind.i64 v14), ((15 : Nat), AV.int IntKind.i64 v15)], hp := [], nx := (0 : Nat), sz := (30 : Nat) }
noncomputable def WiJo_b1 : Code := bodyL (codeAt [1, 1, 0, 1, 2] (codeF f_wire_Join))
noncomputable def WiJo_k1 (fu : Nat) := kAt prog (g_WiJo T0 R0 f0a) fu [1, 1, 0, 1, 2] (codeF f_wire_Join) (kFin prog f_wire_Join)
noncomputable abbrev WiJo_L1 (fu : Nat) (x1 : List Str) (n1 : Nat) (x13 : List Int) (n13 : Nat) (v14 v15 : Int) := lpA prog (g_WiJo T0 R0 f0a) fu WiJo_b1 (WiJo_k1 T0 R0 f0a fu ) fu (some (WiJo_s1 x1 n1 x13 n13 v14 v15))
theorem WiJo_ev (fu : Nat) (a : List Int) (n : Nat) (b : List Str) (m : Nat) : afunc prog f_wire_Join (g_WiJo T0 R0 f0a) fu [AV.s (SV.dat (TRow.ints IntKind.i64 a) n (1 : Nat)), AV.s (SV.dat (TRow.strs b) m (1 : Nat))] =
  bif !decide ((↑n : Int) = (↑m : Int)) then some (AV.tup [CV.s (SV.pl (Pl.str [])), CV.s (SV.pl (Pl.int IntKind.i64 (6 : Int)))]) else WiJo_L1 T0 R0 f0a fu b m a n (↑n : Int) (0 : Int) := by kernel_rfl
noncomputable def WiJo_o1r (x1 : List Str) (n1 : Nat) (s4 : List UInt8) (v5 : Int) : St :=
  { tm := [((1 : Nat), AV.s (SV.dat (TRow.strs x1) n1 (1 : Nat))), ((4 : Nat), AV.str s4), ((5 : Nat), AV.int IntKind.i64 v5)], hp := [], nx := (0 : Nat), sz := (30 : Nat) }
noncomputable def WiJo_o1e0 (x1 : List Str) (n1 : Nat) : St :=
  { tm := [((1 : Nat), AV.s (SV.dat (TRow.strs x1) n1 (1 : Nat))), ((4 : Nat), AV.s SV.junk), ((5 : Nat), AV.s SV.junk)], hp := [], nx := (0 : Nat), sz := (30 : Nat) }
theorem WiJo_r1 {β : Type} (fu : Nat) (G : Option St → Option β) (H : Ex → Option St → Option β) (x1 : List Str) (n1 : Nat) (x13 : List Int) (n13 : Nat) (v14 v15 : Int) : lpR prog (g_WiJo T0 R0 f0a) fu WiJo_b1 G H (WiJo_s1 x1 n1 x13 n13 v14 v15) =
  bif decide (v15 < v14) then
    bif decide ((0 : Int) ≤ v15 ∧ v15 < (↑n13 : Int)) then
      bif decide ((0 : Int) ≤ v15 ∧ v15 < (↑n1 : Int)) then
        bif !decide ((↑(List.length (x1.getD v15.toNat [])) : Int) = x13.getD v15.toNat (0 : Int)) then H Ex.ret (some (WiJo_o1r x1 n1 [] (4 : Int)))
        else G (some (WiJo_s1 x1 n1 x13 n13 v14 (IntKind.i64.wrap (v15 + (1 : Int)))))
      else none
    else none
  else H (Ex.exit (0 : Nat)) (some (WiJo_o1e0 x1 n1)) := by kernel_rfl
theorem WiJo_c1r (fu : Nat) (x1 : List Str) (n1 : Nat) (s4 : List UInt8) (v5 : Int) : WiJo_k1 T0 R0 f0a fu  Ex.ret (WiJo_o1r x1 n1 s4 v5) =
  some (AV.tup [CV.s (SV.pl (Pl.str s4)), CV.s (SV.pl (Pl.int IntKind.i64 v5))]) := by kernel_rfl
theorem WiJo_c1e0 (fu : Nat) (x1 : List Str) (n1 : Nat) : WiJo_k1 T0 R0 f0a fu  (Ex.exit 0) (WiJo_o1e0 x1 n1) =
  (R0 [AV.s (SV.dat (TRow.strs x1) n1 (1 : Nat)), AV.str []]).bind fun (t : T0) => some (AV.tup [CV.s (SV.pl (Pl.str (f0a t))), CV.s (SV.pl (Pl.int IntKind.i64 (0 : Int)))]) := by kernel_rfl
end
noncomputable def g_WrJo : Cg := ⟨⟨gam [], [], noE⟩, [(6, [0, 6, 14, 15, 16], [4, 5, 6])]⟩
noncomputable def WrJo_s1 (x0 : List Int) (n0 : Nat) (s6 : List UInt8) (x14 : List Str) (n14 : Nat) (v15 v16 : Int) : St :=
  { tm := [((0 : Nat), AV.s (SV.dat (TRow.ints IntKind.i64 x0) n0 (1 : Nat))), ((6 : Nat), AV.str s6), ((14 : Nat), AV.s (SV.dat (TRow.strs x14) n14 (1 : Nat))), ((15 : Nat), AV.int IntKind.i64 v15), ((16 : Nat), AV.int IntKind.i64 v16)], hp := [], nx := (0 : Nat), sz := (33 : Nat) }
noncomputable def WrJo_b1 : Code := bodyL (codeAt [1, 1, 1, 0, 1, 2] (codeF f_opalineref11_Join))
noncomputable def WrJo_k1 (fu : Nat) := kAt prog g_WrJo fu [1, 1, 1, 0, 1, 2] (codeF f_opalineref11_Join) (kFin prog f_opalineref11_Join)
noncomputable abbrev WrJo_L1 (fu : Nat) (x0 : List Int) (n0 : Nat) (s6 : List UInt8) (x14 : List Str) (n14 : Nat) (v15 v16 : Int) := lpA prog g_WrJo fu WrJo_b1 (WrJo_k1 fu ) fu (some (WrJo_s1 x0 n0 s6 x14 n14 v15 v16))
theorem WrJo_ev (fu : Nat) (a : List Int) (n : Nat) (b : List Str) (m : Nat) : afunc prog f_opalineref11_Join g_WrJo fu [AV.s (SV.dat (TRow.ints IntKind.i64 a) n (1 : Nat)), AV.s (SV.dat (TRow.strs b) m (1 : Nat))] =
  bif !decide ((↑n : Int) = (↑m : Int)) then some (AV.tup [CV.s (SV.pl (Pl.str [])), CV.s (SV.pl (Pl.int IntKind.i64 (6 : Int)))]) else WrJo_L1 fu a n [] b m (↑m : Int) (0 : Int) := by kernel_rfl
noncomputable def WrJo_o1r (s4 : List UInt8) (v5 : Int) (s6 : List UInt8) : St :=
  { tm := [((4 : Nat), AV.str s4), ((5 : Nat), AV.int IntKind.i64 v5), ((6 : Nat), AV.str s6)], hp := [], nx := (0 : Nat), sz := (33 : Nat) }
noncomputable def WrJo_o1e0 (s6 : List UInt8) : St :=
  { tm := [((4 : Nat), AV.s SV.junk), ((5 : Nat), AV.s SV.junk), ((6 : Nat), AV.str s6)], hp := [], nx := (0 : Nat), sz := (33 : Nat) }
theorem WrJo_r1 {β : Type} (fu : Nat) (G : Option St → Option β) (H : Ex → Option St → Option β) (x0 : List Int) (n0 : Nat) (s6 : List UInt8) (x14 : List Str) (n14 : Nat) (v15 v16 : Int) : lpR prog g_WrJo fu WrJo_b1 G H (WrJo_s1 x0 n0 s6 x14 n14 v15 v16) =
  bif decide (v16 < v15) then
    bif decide ((0 : Int) ≤ v16 ∧ v16 < (↑n14 : Int)) then
      bif decide ((0 : Int) ≤ v16 ∧ v16 < (↑n0 : Int)) then
        bif !decide ((↑(List.length (x14.getD v16.toNat [])) : Int) = x0.getD v16.toNat (0 : Int)) then H Ex.ret (some (WrJo_o1r [] (4 : Int) s6))
        else
          bif decide (s6.length + List.length (x14.getD v16.toNat []) ≤ (9223372036854775807 : Nat)) then
            G (some (WrJo_s1 x0 n0 (s6 ++ x14.getD v16.toNat []) x14 n14 v15 (IntKind.i64.wrap (v16 + (1 : Int)))))
          else none
      else none
    else none
  else H (Ex.exit (0 : Nat)) (some (WrJo_o1e0 s6)) := by kernel_rfl
theorem WrJo_c1r (fu : Nat) (s4 : List UInt8) (v5 : Int) (s6 : List UInt8) : WrJo_k1 fu  Ex.ret (WrJo_o1r s4 v5 s6) =
  some (AV.tup [CV.s (SV.pl (Pl.str s4)), CV.s (SV.pl (Pl.int IntKind.i64 v5))]) := by kernel_rfl
theorem WrJo_c1e0 (fu : Nat) (s6 : List UInt8) : WrJo_k1 fu  (Ex.exit 0) (WrJo_o1e0 s6) =
  some (AV.tup [CV.s (SV.pl (Pl.str s6)), CV.s (SV.pl (Pl.int IntKind.i64 (0 : Int)))]) := by kernel_rfl
noncomputable def g_WrSz : Cg := ⟨⟨gam [], [], noE⟩, []⟩
theorem WrSz_ev (fu : Nat) (m : Int) : afunc prog f_opalineref11_Sizes g_WrSz fu [AV.int IntKind.i64 m] =
  bif decide (m = (0 : Int)) then some (AV.s (SV.dat (TRow.ints IntKind.i64 [(32 : Int)]) (1 : Nat) (1 : Nat)))
  else
    bif decide (m = (1 : Int)) then some (AV.s (SV.dat (TRow.ints IntKind.i64 ([(32 : Int)] ++ [(32 : Int)])) (2 : Nat) (1 : Nat)))
    else
      bif decide (m = (2 : Int)) then some (AV.s (SV.dat (TRow.ints IntKind.i64 ([(32 : Int)] ++ ([(64 : Int)] ++ [(96 : Int)]))) (3 : Nat) (1 : Nat)))
      else
        bif decide (m = (3 : Int)) then some (AV.s (SV.dat (TRow.ints IntKind.i64 ([(32 : Int)] ++ ([(32 : Int)] ++ [(32 : Int)]))) (3 : Nat) (1 : Nat)))
        else
          bif decide (m = (4 : Int)) then
            some (AV.s (SV.dat (TRow.ints IntKind.i64 ([(32 : Int)] ++ ([(32 : Int)] ++ ([(128 : Int)] ++ ([(32 : Int)] ++ ([(32 : Int)] ++ [(64 : Int)])))))) (6 : Nat) (1 : Nat)))
          else some (AV.s (SV.dat (TRow.ints IntKind.i64 [(64 : Int)]) (1 : Nat) (1 : Nat))) := by kernel_rfl
end Go.Eng
/- slices.Equal, Min, wire.Split, Join and the document's: their contracts. -/
namespace Go.Eng
open Go Go.Proofs
set_option linter.unusedVariables false
set_option linter.unusedSimpArgs false
noncomputable abbrev gI_WiEq : Cg := g_WiEq 
theorem gok_WiEq : CfOk prog gI_WiEq.c := ⟨gam_nil, fun _ _ h => by cases h⟩
noncomputable abbrev gI_WiMi : Cg := g_WiMi 
theorem gok_WiMi : CfOk prog gI_WiMi.c := ⟨gam_nil, fun _ _ h => by cases h⟩
noncomputable abbrev gI_WrSp : Cg := g_WrSp 
theorem gok_WrSp : CfOk prog gI_WrSp.c := ⟨gam_nil, fun _ _ h => by cases h⟩
noncomputable abbrev gI_WrJo : Cg := g_WrJo 
theorem gok_WrJo : CfOk prog gI_WrJo.c := ⟨gam_nil, fun _ _ h => by cases h⟩
noncomputable abbrev gI_WrSz : Cg := g_WrSz 
theorem gok_WrSz : CfOk prog gI_WrSz.c := ⟨gam_nil, fun _ _ h => by cases h⟩
theorem drop_getD {α : Type} (l : List α) (i : Nat) (h : i < l.length) (d : α) : l.drop i = l.getD i d :: l.drop (i + 1) := by
  rw [List.drop_eq_getElem_cons h, List.getD_eq_getElem?_getD, List.getElem?_eq_getElem h]; rfl
theorem eq_loop (a b : List Str) (hl : a.length = b.length) (hb : a.length ≤ 1048576) (fu : Nat) : ∀ (d n i : Nat), i + d = a.length → d < n →
    lpA prog gI_WiEq fu WiEq_b1 (WiEq_k1 fu) n (some (WiEq_s1 a a.length b b.length (a.length : Int) (i : Int))) = some (.bool (decide (a.drop i = b.drop i))) := by
  intro d
  induction d with
  | zero =>
    intro n i hi hn
    obtain ⟨n, rfl⟩ := Nat.exists_eq_succ_of_ne_zero (by omega : n ≠ 0)
    rw [lpA_succ, WiEq_r1, decide_eq_false (by omega), cond_false, kOut_some, WiEq_c1e0, List.drop_eq_nil_of_le (by omega), List.drop_eq_nil_of_le (by omega)]; rfl
  | succ d ih =>
    intro n i hi hn
    obtain ⟨n, rfl⟩ := Nat.exists_eq_succ_of_ne_zero (by omega : n ≠ 0)
    have h := ih n (i + 1) (by omega) (by omega)
    rw [lpA_succ, WiEq_r1, decide_eq_true (by omega), cond_true, decide_eq_true (by omega), cond_true, decide_eq_true (by omega), cond_true, Int.toNat_natCast, drop_getD a i (by omega) [], drop_getD b i (by omega) []]
    by_cases c : a.getD i [] = b.getD i []
    · rw [decide_eq_true c, Bool.not_true, cond_false, wi64 (by omega) (by omega)]
      refine Eq.trans h ?_
      rw [c]
      congr 2
      simp
    · rw [decide_eq_false c, Bool.not_false, cond_true, kOut_some, WiEq_c1r]
      rw [decide_eq_false (fun e => c (List.cons.inj e).1)]
theorem ok_EqSs : CallOk prog n_slices_Equal__string_string sEqSs := by
  refine afunc_okE (g := gI_WiEq) (fu := fun args => match args with | .c (.s (.dat _ n _)) :: _ => n + 1 | _ => 0) mixed gok_WiEq h_slices_Equal__string_string (by kernel_rfl) ?_
  intro args t ht
  unfold sEqSs at ht
  simp only at ht
  split at ht
  · rename_i a n b m
    obtain ⟨h1, h2⟩ := ctrueS ht
    subst h2
    simp only [Bool.and_eq_true] at h1
    have e1 := Nat.eq_of_beq_eq_true h1.1.1
    have e2 := Nat.eq_of_beq_eq_true h1.1.2
    have e3 := Nat.le_of_ble_eq_true h1.2
    subst e1 e2
    refine (WiEq_ev ..).trans ?_
    by_cases c : a.length = b.length
    · rw [decide_eq_true (by omega), Bool.not_true, cond_false]
      exact eq_loop a b c e3 _ a.length _ 0 (by omega) (Nat.lt_succ_self _)
    · rw [decide_eq_false (by omega), Bool.not_false, cond_true]
      rw [decide_eq_false (fun e => c (congrArg List.length e))]; rfl
  · cases ht
theorem mi_loop (a : List Int) (hb : a.length ≤ 1048576) (fu : Nat) : ∀ (d n i : Nat) (v : Int), i + d = a.length → d < n →
    lpA prog gI_WiMi fu WiMi_b1 (WiMi_k1 fu) n (some (WiMi_s1 a a.length v (i : Int))) = some (.int .i64 (minL v (a.drop i))) := by
  intro d
  induction d with
  | zero =>
    intro n i v hi hn
    obtain ⟨n, rfl⟩ := Nat.exists_eq_succ_of_ne_zero (by omega : n ≠ 0)
    rw [lpA_succ, WiMi_r1, decide_eq_false (by omega), cond_false, kOut_some, WiMi_c1e0, List.drop_eq_nil_of_le (by omega)]; rfl
  | succ d ih =>
    intro n i v hi hn
    obtain ⟨n, rfl⟩ := Nat.exists_eq_succ_of_ne_zero (by omega : n ≠ 0)
    have h := fun v => ih n (i + 1) v (by omega) (by omega)
    rw [lpA_succ, WiMi_r1, decide_eq_true (by omega), cond_true, decide_eq_true (by omega), cond_true, Int.toNat_natCast, drop_getD a i (by omega) 0, wi64 (by omega) (by omega)]
    exact h _
theorem okLs_ok {l : List Int} {n : Nat} (h : okLs l n = true) : n = l.length ∧ l.length ≤ 1048576 ∧ ∀ x ∈ l, -9223372036854775808 ≤ x ∧ x < 9223372036854775808 := by
  simp only [okLs, Bool.and_eq_true] at h
  exact ⟨Nat.eq_of_beq_eq_true h.1.1, Nat.le_of_ble_eq_true h.1.2, fun x hx => of_decide_eq_true (List.all_eq_true.1 h.2 x hx)⟩
theorem ok_Min : CallOk prog n_slices_Min__int_int sMin := by
  refine afunc_okE (g := gI_WiMi) (fu := fun args => match args with | .c (.s (.dat _ n _)) :: _ => n + 1 | _ => 0) mixed gok_WiMi h_slices_Min__int_int (by kernel_rfl) ?_
  intro args t ht
  unfold sMin at ht
  simp only at ht
  split at ht
  · rename_i x l n
    obtain ⟨h1, h2⟩ := ctrueS ht
    subst h2
    obtain ⟨e1, e2, _⟩ := okLs_ok h1
    subst e1
    rw [List.length_cons] at e2
    refine (WiMi_ev ..).trans ?_
    rw [List.length_cons, decide_eq_false (by omega), cond_false, decide_eq_true (by omega), cond_true]
    have := mi_loop (x :: l) (by rw [List.length_cons]; omega) (l.length + 1 + 1) l.length (l.length + 1 + 1) 1 x (by rw [List.length_cons]; omega) (by omega)
    exact this
  · cases ht
theorem run_Min {x : Int} {l : List Int} {n : Nat} (h : okLs (x :: l) n = true) : rMin [.s (.dat (.ints .i64 (x :: l)) n 1)] = some (minL x l) := by
  simp only [rMin, sMin, h, cond_true]
theorem minL_neg : ∀ (l : List Int) (v : Int), decide (minL v l < 0) = anyNeg (v :: l) := by
  intro l
  induction l with
  | nil => intro v; show decide (v < 0) = (decide (v < 0) || false); rw [Bool.or_false]
  | cons y r ih =>
    intro v
    have e : ∀ a b : Int, anyNeg (a :: b :: r) = (decide (a < 0) || (decide (b < 0) || anyNeg r)) := fun a b => rfl
    have e2 : ∀ a : Int, anyNeg (a :: r) = (decide (a < 0) || anyNeg r) := fun a => rfl
    rw [minL, ih, e, e2, ← Bool.or_assoc]
    congr 1
    rw [← Bool.decide_or]
    refine decide_eq_decide.2 ?_
    split <;> omega
/-! ## Split -/
def sumI : List Int → Int
  | [] => 0
  | n :: r => n + sumI r
def cutP : Str → List Int → List Str
  | _, [] => []
  | s, n :: r => s.take n.toNat :: cutP (s.drop n.toNat) r
theorem anyNeg_cons (n : Int) (r : List Int) : anyNeg (n :: r) = (decide (n < 0) || anyNeg r) := rfl
theorem nn_cons {n : Int} {r : List Int} (h : anyNeg (n :: r) = false) : 0 ≤ n ∧ anyNeg r = false := by
  rw [anyNeg_cons, Bool.or_eq_false_iff, decide_eq_false_iff_not] at h
  exact ⟨by omega, h.2⟩
theorem sumI_nn : ∀ {l : List Int}, anyNeg l = false → 0 ≤ sumI l := by
  intro l
  induction l with
  | nil => intro _; exact Int.le_refl _
  | cons n r ih =>
    intro h
    have := ih (nn_cons h).2
    have := (nn_cons h).1
    rw [sumI]; omega
theorem cutS_eq : ∀ (l : List Int) (s : Str) (out : List Str), anyNeg l = false →
    cutS s l out = cond (decide ((s.length : Int) < sumI l)) ([], 3) (cond (decide (sumI l < (s.length : Int))) ([], 4) (out ++ cutP s l, 0)) := by
  intro l
  induction l with
  | nil =>
    intro s out _
    rw [cutS, sumI, decide_eq_false (by omega : ¬ (s.length : Int) < 0), cond_false, cutP, List.append_nil]
    cases s with
    | nil => rfl
    | cons c r => rw [decide_eq_false (by simp), cond_false, decide_eq_true (by rw [List.length_cons]; omega), cond_true]
  | cons n r ih =>
    intro s out h
    obtain ⟨h0, hr⟩ := nn_cons h
    have hs := sumI_nn hr
    rw [cutS, sumI]
    by_cases c : (s.length : Int) < n
    · rw [decide_eq_true c, cond_true, decide_eq_true (by omega), cond_true]
    · rw [decide_eq_false c, cond_false, ih _ _ hr, cutP]
      have hl : ((s.drop n.toNat).length : Int) = s.length - n := by rw [List.length_drop]; omega
      rw [hl, show decide (((s.length : Int) - n) < sumI r) = decide ((s.length : Int) < n + sumI r) from decide_eq_decide.2 (by omega), show decide (sumI r < ((s.length : Int) - n)) = decide (n + sumI r < (s.length : Int)) from decide_eq_decide.2 (by omega), List.append_assoc]; rfl
noncomputable abbrev gI_WiSp : Cg := g_WiSp (Int) rMin (fun t => t)
theorem gok_WiSp : CfOk prog gI_WiSp.c := ⟨gam_cons ok_Min <| gam_nil, fun _ _ h => by cases h⟩
theorem anyNeg_drop (l : List Int) (i : Nat) (h : anyNeg l = false) : anyNeg (l.drop i) = false := by
  unfold anyNeg at *
  rw [List.any_eq_false] at *
  exact fun x hx => h x (List.mem_of_mem_drop hx)
theorem sp_loop (a : List Int) (ha : anyNeg a = false) (hb : a.length ≤ 1048576) (fu : Nat) : ∀ (d n i m : Nat) (s : Str) (out : List Str), i + d = a.length → d < n → s.length ≤ 1099511627776 → out.length + d ≤ 1048577 →
    lpA prog gI_WiSp fu WiSp_b1 (WiSp_k1 _ rMin (fun t => t) fu) n (some (WiSp_s1 s out.length a a.length (a.length : Int) (i : Int) m out)) = some (sSplit.enc (cutS s (a.drop i) out)) := by
  intro d
  induction d with
  | zero =>
    intro n i m s out hi hn hs ho
    obtain ⟨n, rfl⟩ := Nat.exists_eq_succ_of_ne_zero (by omega : n ≠ 0)
    rw [lpA_succ, WiSp_r1, decide_eq_false (by omega), cond_false, kOut_some, WiSp_c1e0, List.drop_eq_nil_of_le (by omega), cutS]
    cases decide (s = []) <;> rfl
  | succ d ih =>
    intro n i m s out hi hn hs ho
    obtain ⟨n, rfl⟩ := Nat.exists_eq_succ_of_ne_zero (by omega : n ≠ 0)
    have nn := anyNeg_drop a i ha
    rw [drop_getD a i (by omega) 0] at nn ⊢
    obtain ⟨h0, _⟩ := nn_cons nn
    rw [lpA_succ, WiSp_r1, decide_eq_true (by omega), cond_true, decide_eq_true (by omega), cond_true, Int.toNat_natCast, cutS]
    generalize a.getD i 0 = x at h0 ⊢
    by_cases c : (s.length : Int) < x
    · rw [decide_eq_true c, cond_true, cond_true, kOut_some, WiSp_c1r]; rfl
    · rw [decide_eq_false c, cond_false, cond_false, decide_eq_true (by omega), cond_true, decide_eq_true (by omega), cond_true, decide_eq_true (by omega), cond_true, wi64 (by omega) (by omega)]
      have e1 : sl s x (s.length : Int) = s.drop x.toNat := by
        rw [sl, List.take_of_length_le]
        rw [List.length_drop]; omega
      have e2 : sl s 0 x = s.take x.toNat := by rw [sl]; simp
      rw [e1, e2]
      have h := ih n (i + 1) ((out.length + 1) * 1) (s.drop x.toNat) (out ++ [s.take x.toNat]) (by omega) (by omega) (by rw [List.length_drop]; omega) (by rw [List.length_append, List.length_singleton]; omega)
      rw [List.length_append, List.length_singleton] at h
      exact h
theorem ok_SplitW : CallOk prog n_wire_Split sSplit := by
  refine afunc_okE (g := gI_WiSp) (fu := fun args => match args with | [_, .c (.s (.dat _ n _))] => n + 1 | _ => 0) mixed gok_WiSp h_wire_Split (by kernel_rfl) ?_
  intro args t ht
  unfold sSplit at ht
  simp only at ht
  split at ht
  · rename_i s l n
    obtain ⟨h1, h2⟩ := ctrueS ht
    subst h2
    rw [Bool.and_eq_true] at h1
    have hs := Nat.le_of_ble_eq_true h1.1
    obtain ⟨e1, e2, e3⟩ := okLs_ok h1.2
    subst e1
    refine (WiSp_ev ..).trans ?_
    have key : anyNeg l = false → WiSp_L1 _ rMin (fun t => t) (l.length + 1) s 0 l l.length (l.length : Int) 0 0 [] = some (sSplit.enc (splitS s l)) := fun hn => by
      rw [splitS, hn, cond_false]
      exact sp_loop l hn e2 (l.length + 1) l.length (l.length + 1) 0 0 s [] (by omega) (by omega) hs (by simp; omega)
    cases l with
    | nil => rw [decide_eq_false (by simp), cond_false]; exact key rfl
    | cons x r =>
      rw [decide_eq_true (by rw [List.length_cons]; omega), cond_true, run_Min h1.2, Option.bind_some, minL_neg]
      cases hn : anyNeg (x :: r)
      · rw [cond_false]; exact key hn
      · rw [cond_true, splitS, hn]; rfl
  · cases ht
def satS (L : Nat) : Int → List Int → Int
  | t, [] => t
  | t, n :: r => satS L (cond (decide (t ≤ (L : Int))) (t + if (L : Int) + 1 < n then (L : Int) + 1 else n) t) r
theorem satS_big (L : Nat) : ∀ (l : List Int) (t : Int), (L : Int) < t → satS L t l = t := by
  intro l
  induction l with
  | nil => intro t _; rfl
  | cons n r ih => intro t h; rw [satS, decide_eq_false (by omega), cond_false, ih t h]
theorem satS_eq (L : Nat) : ∀ (l : List Int) (t : Int), anyNeg l = false → 0 ≤ t → ((L : Int) < satS L t l ↔ (L : Int) < t + sumI l) ∧ (satS L t l ≤ (L : Int) → satS L t l = t + sumI l) := by
  intro l
  induction l with
  | nil => intro t _ _; rw [satS, sumI]; omega
  | cons n r ih =>
    intro t h ht
    obtain ⟨h0, hr⟩ := nn_cons h
    have hs := sumI_nn hr
    rw [satS, sumI]
    by_cases c : t ≤ (L : Int)
    · rw [decide_eq_true c, cond_true]
      by_cases c2 : (L : Int) + 1 < n
      · rw [if_pos c2, satS_big _ _ _ (by omega)]; omega
      · rw [if_neg c2]
        have := ih (t + n) hr (by omega)
        omega
    · rw [decide_eq_false c, cond_false, satS_big _ _ _ (by omega)]; omega
theorem rs1_loop (s : Str) (hs : s.length ≤ 1099511627776) (a : List Int) (hb : a.length ≤ 1048576) (fu : Nat) : ∀ (d n i : Nat) (t : Int), i + d = a.length → d < n → 0 ≤ t → t ≤ 2 * (s.length : Int) + 1 →
    lpA prog gI_WrSp fu WrSp_b1 (WrSp_k1 fu) n (some (WrSp_s1 s a a.length t a a.length (a.length : Int) (i : Int))) =
      cond (anyNeg (a.drop i)) (some (sSplit.enc ([], 2))) (WrSp_k1 fu (.exit 0) (WrSp_o1e0 s a a.length (satS s.length t (a.drop i)))) := by
  intro d
  induction d with
  | zero =>
    intro n i t hi hn h0 h1
    obtain ⟨n, rfl⟩ := Nat.exists_eq_succ_of_ne_zero (by omega : n ≠ 0)
    rw [lpA_succ, WrSp_r1, decide_eq_false (by omega), cond_false, kOut_some, List.drop_eq_nil_of_le (by omega : a.length ≤ i), show anyNeg ([] : List Int) = false from rfl, cond_false, satS]
  | succ d ih =>
    intro n i t hi hn h0 h1
    obtain ⟨n, rfl⟩ := Nat.exists_eq_succ_of_ne_zero (by omega : n ≠ 0)
    rw [drop_getD a i (by omega) 0, lpA_succ, WrSp_r1, decide_eq_true (by omega), cond_true, decide_eq_true (by omega), cond_true, Int.toNat_natCast, anyNeg_cons]
    generalize a.getD i 0 = x
    by_cases c : x < 0
    · rw [decide_eq_true c, cond_true, kOut_some, WrSp_c1r, Bool.true_or]; rfl
    · rw [decide_eq_false c, cond_false, Bool.false_or, satS, wi64 (n := (s.length : Int) + 1) (by omega) (by omega)]
      by_cases c2 : t ≤ (s.length : Int)
      · rw [decide_eq_true c2, cond_true, cond_true]
        have e : IntKind.i64.wrap (t + if (s.length : Int) + 1 < x then (s.length : Int) + 1 else x) = t + if (s.length : Int) + 1 < x then (s.length : Int) + 1 else x := by
          refine wi64 ?_ ?_ <;> split <;> omega
        rw [e, wi64 (by omega) (by omega)]
        exact ih n (i + 1) _ (by omega) (by omega) (by split <;> omega) (by split <;> omega)
      · rw [decide_eq_false c2, cond_false, cond_false, wi64 (by omega) (by omega)]
        exact ih n (i + 1) _ (by omega) (by omega) h0 h1
theorem rs2_loop (s : Str) (hs : s.length ≤ 1099511627776) (a : List Int) (ha : anyNeg a = false) (hb : a.length ≤ 1048576) (fu : Nat) : ∀ (d n i m at' : Nat) (out : List Str), i + d = a.length → d < n → (at' : Int) + sumI (a.drop i) = s.length → out.length + d ≤ 1048577 →
    lpA prog gI_WrSp fu WrSp_b2 (WrSp_k2 fu) n (some (WrSp_s2 s out.length (at' : Int) a a.length (a.length : Int) (i : Int) m out)) = some (sSplit.enc (out ++ cutP (s.drop at') (a.drop i), 0)) := by
  intro d
  induction d with
  | zero =>
    intro n i m at' out hi hn hsum ho
    obtain ⟨n, rfl⟩ := Nat.exists_eq_succ_of_ne_zero (by omega : n ≠ 0)
    rw [lpA_succ, WrSp_r2, decide_eq_false (by omega), cond_false, kOut_some, WrSp_c2e2, List.drop_eq_nil_of_le (by omega : a.length ≤ i)]
    rw [show cutP (s.drop at') [] = [] from rfl, List.append_nil]; rfl
  | succ d ih =>
    intro n i m at' out hi hn hsum ho
    obtain ⟨n, rfl⟩ := Nat.exists_eq_succ_of_ne_zero (by omega : n ≠ 0)
    have nn := anyNeg_drop a i ha
    rw [drop_getD a i (by omega) 0] at nn hsum ⊢
    obtain ⟨h0, hr⟩ := nn_cons nn
    have hs' := sumI_nn hr
    rw [sumI] at hsum
    rw [lpA_succ, WrSp_r2, decide_eq_true (by omega), cond_true, decide_eq_true (by omega), cond_true, Int.toNat_natCast, cutP]
    generalize a.getD i 0 = x at h0 hsum ⊢
    obtain ⟨k, rfl⟩ := Int.eq_ofNat_of_zero_le h0
    rw [wi64 (n := (at' : Int) + (k : Int)) (by omega) (by omega), decide_eq_true (by omega), cond_true, decide_eq_true (by omega), cond_true, wi64 (by omega) (by omega)]
    have e2 : sl s (at' : Int) ((at' : Int) + (k : Int)) = (s.drop at').take k := by rw [sl, Int.toNat_natCast, show ((at' : Int) + (k : Int) - (at' : Int)).toNat = k by omega]
    rw [e2, Int.toNat_natCast, List.drop_drop]
    have h := ih n (i + 1) ((out.length + 1) * 1) (at' + k) (out ++ [(s.drop at').take k]) (by omega) (by omega) (by omega) (by rw [List.length_append, List.length_singleton]; omega)
    rw [List.length_append, List.length_singleton, List.append_assoc] at h
    exact h
theorem ok_RefSplitW : CallOk prog n_opalineref11_Split sSplit := by
  refine afunc_okE (g := gI_WrSp) (fu := fun args => match args with | [_, .c (.s (.dat _ n _))] => n + 1 | _ => 0) mixed gok_WrSp h_opalineref11_Split (by kernel_rfl) ?_
  intro args t ht
  unfold sSplit at ht
  simp only at ht
  split at ht
  · rename_i s l n
    obtain ⟨h1, h2⟩ := ctrueS ht
    subst h2
    rw [Bool.and_eq_true] at h1
    have hs := Nat.le_of_ble_eq_true h1.1
    obtain ⟨e1, e2, e3⟩ := okLs_ok h1.2
    subst e1
    refine (WrSp_ev ..).trans ?_
    have a := rs1_loop s hs l e2 (l.length + 1) l.length (l.length + 1) 0 0 (by omega) (by omega) (by omega) (by omega)
    refine Eq.trans a ?_
    rw [List.drop_zero, splitS]
    cases hn : anyNeg l
    · rw [cond_false, cond_false, WrSp_c1e0, cutS_eq _ _ _ hn]
      obtain ⟨q1, q2⟩ := satS_eq s.length l 0 hn (Int.le_refl _)
      rw [Int.zero_add] at q1 q2
      by_cases c : (s.length : Int) < sumI l
      · rw [decide_eq_true (q1.2 c), cond_true, decide_eq_true c, cond_true]; rfl
      · have c' : ¬ (s.length : Int) < satS s.length 0 l := fun h => c (q1.1 h)
        have q := q2 (by omega)
        rw [decide_eq_false c', cond_false, decide_eq_false c, cond_false, q]
        by_cases c3 : sumI l < (s.length : Int)
        · rw [decide_eq_true c3, cond_true, cond_true]; rfl
        · rw [decide_eq_false c3, cond_false, cond_false]
          exact rs2_loop s hs l hn e2 (l.length + 1) l.length (l.length + 1) 0 0 0 [] (by omega) (by omega) (by rw [List.drop_zero]; omega) (by simp; omega)
    · rfl
  · cases ht
theorem ok_Sizes : CallOk prog n_opalineref11_Sizes sSizes := by
  refine afunc_okE (g := gI_WrSz) (fu := fun _ => 0) mixed gok_WrSz h_opalineref11_Sizes (by kernel_rfl) ?_
  intro args t ht
  unfold sSizes at ht
  simp only at ht
  split at ht
  · rename_i m
    cases ht
    refine (WrSz_ev ..).trans ?_
    by_cases c0 : m = 0
    · subst c0; rfl
    by_cases c1 : m = 1
    · subst c1; rfl
    by_cases c2 : m = 2
    · subst c2; rfl
    by_cases c3 : m = 3
    · subst c3; rfl
    by_cases c4 : m = 4
    · subst c4; rfl
    rw [decide_eq_false c0, decide_eq_false c1, decide_eq_false c2, decide_eq_false c3, decide_eq_false c4]
    have : szOf m = [64] := by
      unfold szOf
      split <;> first | rfl | contradiction
    rw [this]; rfl
  · cases ht
/-! ## Join -/
noncomputable abbrev gI_WiJo : Cg := g_WiJo (List UInt8) rJoin (fun t => t)
theorem gok_WiJo : CfOk prog gI_WiJo.c := ⟨gam_cons ok_Join <| gam_nil, fun _ _ h => by cases h⟩
theorem okSs_ok {l : List Str} {n : Nat} (h : okSs l n = true) : n = l.length ∧ l.length ≤ 1048576 ∧ l.flatten.length ≤ 1099511627776 := by
  simp only [okSs, Bool.and_eq_true] at h
  exact ⟨Nat.eq_of_beq_eq_true h.1.1, Nat.le_of_ble_eq_true h.1.2, Nat.le_of_ble_eq_true h.2⟩
theorem join_flat (ss : List Str) : Lib.join ss [] = ss.flatten := by
  cases ss with
  | nil => rfl
  | cons x r =>
    rw [Lib.join_cons, Lib.joinTail]
    simp
theorem run_JoinF {ss : List Str} (h1 : ss.length ≤ 1048576) (h2 : ss.flatten.length ≤ 1099511627776) : rJoin [.s (.dat (.strs ss) ss.length 1), .str []] = some ss.flatten := by
  have e : (Nat.beq ss.length ss.length && Nat.ble ss.length big47 && Nat.ble (Lib.join ss []).length big47) = true := by
    rw [join_flat, Nat.beq_refl, Nat.ble_eq_true_of_le (Nat.le_trans h1 (by decide)), Nat.ble_eq_true_of_le (Nat.le_trans h2 (by decide))]; rfl
  simp only [rJoin, sJoin]
  rw [e, cond_true, join_flat]
theorem jo_loop (a : List Int) (b : List Str) (hl : a.length = b.length) (h1 : b.length ≤ 1048576) (h2 : b.flatten.length ≤ 1099511627776) (fu : Nat) : ∀ (d n i : Nat), i + d = a.length → d < n →
    lpA prog gI_WiJo fu WiJo_b1 (WiJo_k1 _ rJoin (fun t => t) fu) n (some (WiJo_s1 b b.length a a.length (a.length : Int) (i : Int))) = some (sJoinW.enc (cond (fitS (a.drop i) (b.drop i)) (b.flatten, 0) ([], 4))) := by
  intro d
  induction d with
  | zero =>
    intro n i hi hn
    obtain ⟨n, rfl⟩ := Nat.exists_eq_succ_of_ne_zero (by omega : n ≠ 0)
    rw [lpA_succ, WiJo_r1, decide_eq_false (by omega), cond_false, kOut_some, WiJo_c1e0, run_JoinF h1 h2, Option.bind_some, List.drop_eq_nil_of_le (by omega)]; rfl
  | succ d ih =>
    intro n i hi hn
    obtain ⟨n, rfl⟩ := Nat.exists_eq_succ_of_ne_zero (by omega : n ≠ 0)
    have h := ih n (i + 1) (by omega) (by omega)
    rw [drop_getD a i (by omega) 0, drop_getD b i (by omega) [], fitS, lpA_succ, WiJo_r1, decide_eq_true (by omega), cond_true, decide_eq_true (by omega), cond_true, decide_eq_true (by omega), cond_true, Int.toNat_natCast]
    by_cases c : (((b.getD i []).length : Nat) : Int) = a.getD i 0
    · rw [decide_eq_true c, Bool.not_true, cond_false, Bool.true_and, wi64 (by omega) (by omega)]
      exact h
    · rw [decide_eq_false c, Bool.not_false, cond_true, Bool.false_and, kOut_some, WiJo_c1r]; rfl
theorem ok_JoinW : CallOk prog n_wire_Join sJoinW := by
  refine afunc_okE (g := gI_WiJo) (fu := fun args => match args with | .c (.s (.dat _ n _)) :: _ => n + 1 | _ => 0) mixed gok_WiJo h_wire_Join (by kernel_rfl) ?_
  intro args t ht
  unfold sJoinW at ht
  simp only at ht
  split at ht
  · rename_i l n ps m
    obtain ⟨h1, h2⟩ := ctrueS ht
    subst h2
    rw [Bool.and_eq_true] at h1
    obtain ⟨e1, e2, e3⟩ := okLs_ok h1.1
    obtain ⟨f1, f2, f3⟩ := okSs_ok h1.2
    subst e1 f1
    refine (WiJo_ev ..).trans ?_
    rw [joinS]
    by_cases c : l.length = ps.length
    · rw [decide_eq_true (by omega), Bool.not_true, cond_false, show Nat.beq l.length ps.length = true by rw [c]; exact Nat.beq_refl _, cond_true]
      exact jo_loop l ps c f2 f3 _ l.length _ 0 (by omega) (Nat.lt_succ_self _)
    · rw [decide_eq_false (by omega), Bool.not_false, cond_true, show Nat.beq l.length ps.length = false from beqF c]; rfl
  · cases ht
theorem take_flat (b : List Str) (i : Nat) (h : i < b.length) : (b.take (i + 1)).flatten = (b.take i).flatten ++ b.getD i [] := by
  rw [List.take_add_one, List.getElem?_eq_getElem h, List.flatten_append, List.getD_eq_getElem?_getD, List.getElem?_eq_getElem h]
  simp
theorem flat_le (b : List Str) (i : Nat) : (b.take i).flatten.length ≤ b.flatten.length := by
  have : b.flatten = (b.take i).flatten ++ (b.drop i).flatten := by rw [← List.flatten_append, List.take_append_drop]
  rw [this, List.length_append]; omega
theorem rj_loop (a : List Int) (b : List Str) (hl : a.length = b.length) (h1 : b.length ≤ 1048576) (h2 : b.flatten.length ≤ 1099511627776) (fu : Nat) : ∀ (d n i : Nat), i + d = a.length → d < n →
    lpA prog gI_WrJo fu WrJo_b1 (WrJo_k1 fu) n (some (WrJo_s1 a a.length (b.take i).flatten b b.length (b.length : Int) (i : Int))) = some (sJoinW.enc (cond (fitS (a.drop i) (b.drop i)) (b.flatten, 0) ([], 4))) := by
  intro d
  induction d with
  | zero =>
    intro n i hi hn
    obtain ⟨n, rfl⟩ := Nat.exists_eq_succ_of_ne_zero (by omega : n ≠ 0)
    rw [lpA_succ, WrJo_r1, decide_eq_false (by omega), cond_false, kOut_some, WrJo_c1e0, List.drop_eq_nil_of_le (by omega), List.take_of_length_le (by omega)]; rfl
  | succ d ih =>
    intro n i hi hn
    obtain ⟨n, rfl⟩ := Nat.exists_eq_succ_of_ne_zero (by omega : n ≠ 0)
    have h := ih n (i + 1) (by omega) (by omega)
    have hf := flat_le b (i + 1)
    rw [take_flat b i (by omega)] at h hf
    rw [List.length_append] at hf
    rw [drop_getD a i (by omega) 0, drop_getD b i (by omega) [], fitS, lpA_succ, WrJo_r1, decide_eq_true (by omega), cond_true, decide_eq_true (by omega), cond_true, decide_eq_true (by omega), cond_true, Int.toNat_natCast]
    by_cases c : (((b.getD i []).length : Nat) : Int) = a.getD i 0
    · rw [decide_eq_true c, Bool.not_true, cond_false, Bool.true_and, decide_eq_true (by omega), cond_true, wi64 (by omega) (by omega)]
      exact h
    · rw [decide_eq_false c, Bool.not_false, cond_true, Bool.false_and, kOut_some, WrJo_c1r]; rfl
theorem ok_RefJoinW : CallOk prog n_opalineref11_Join sJoinW := by
  refine afunc_okE (g := gI_WrJo) (fu := fun args => match args with | .c (.s (.dat _ n _)) :: _ => n + 1 | _ => 0) mixed gok_WrJo h_opalineref11_Join (by kernel_rfl) ?_
  intro args t ht
  unfold sJoinW at ht
  simp only at ht
  split at ht
  · rename_i l n ps m
    obtain ⟨h1, h2⟩ := ctrueS ht
    subst h2
    rw [Bool.and_eq_true] at h1
    obtain ⟨e1, e2, e3⟩ := okLs_ok h1.1
    obtain ⟨f1, f2, f3⟩ := okSs_ok h1.2
    subst e1 f1
    refine (WrJo_ev ..).trans ?_
    rw [joinS]
    by_cases c : l.length = ps.length
    · rw [decide_eq_true (by omega), Bool.not_true, cond_false, show Nat.beq l.length ps.length = true by rw [c]; exact Nat.beq_refl _, cond_true]
      exact rj_loop l ps c f2 f3 _ l.length _ 0 (by omega) (Nat.lt_succ_self _)
    · rw [decide_eq_false (by omega), Bool.not_false, cond_true, show Nat.beq l.length ps.length = false from beqF c]; rfl
  · cases ht
end Go.Eng
/- slices.Grow of a row of strings that is none: what it does to the state. Off the shelf. -/
namespace Go.Eng
open Go Go.Proofs Go.RowKit
set_option linter.unusedVariables false
set_option linter.unusedSimpArgs false
def growRen : Go.Shelf.Ren := ⟨fun | 4 => 64 | n => n, fun | 0 => 0 | 3 => 3 | 4 => 4 | 9 => 9 | 20 => 20 | 22 => 27 | 25 => 9 | n => n, fun | n => n⟩
theorem growLay : Lays8.n4 prog growRen where
  mixed := by kernel_rfl
  f4 := ⟨ "slices.Grow[[]string,string]", by decide, h_slices_Grow__string_string.trans (congrArg some (by kernel_rfl))⟩
  t0 := Try.underlying0
  a0 := Try.isAgg0
  z0 := Try.sizeOf0
  v0 := Try.zeroValue0
  t3 := Try.underlying3
  a3 := Try.isAgg3
  z3 := Try.sizeOf3
  v3 := Try.zeroValue3
  t4 := Try.underlying4
  a4 := Try.isAgg4
  z4 := Try.sizeOf4
  v4 := Try.zeroValue4
  t9 := Try.underlying9
  a9 := Try.isAgg9
  z9 := Try.sizeOf9
  v9 := Try.zeroValue9
  t20 := Try.underlying20
  a20 := Try.isAgg20
  z20 := Try.sizeOf20
  v20 := Try.zeroValue20
  t22 := Try.underlying27
  a22 := Try.isAgg27
  z22 := Try.sizeOf27
  v22 := Try.zeroValue27
theorem infoString : ∃ i, prog.info? 9 = some i ∧ i.zero = some (.string ⟨#[]⟩) ∧ i.size = 1 ∧ i.bytes = 16 := by
  have h1 : (match prog.info? 9 with | some i => i.zero | none => none) = some (.string ⟨#[]⟩) := by kernel_rfl
  have h2 : (match prog.info? 9 with | some i => i.size | none => 0) = 1 := by kernel_rfl
  have h3 : (match prog.info? 9 with | some i => i.bytes | none => 0) = 16 := by kernel_rfl
  cases h : prog.info? 9 with
  | none => rw [h] at h2; cases h2
  | some i => rw [h] at h1 h2 h3; exact ⟨i, rfl, h1, h2, h3⟩
theorem Rel.newghost {P : Program} {B : Bs} {w0 w : World} {ρ : Plc} {s : St} {a : Act} (hs : Rel B w0 ρ s a w) {b : Blk} (hnone : ρ s.nx = none) (hl : b.row.len = 0) (hrf : ∀ j ∈ b.row.refs, j < s.nx) :
    Rel B w0 ρ { s with hp := (s.nx, b) :: s.hp, nx := s.nx + 1 } a w := by
  refine ⟨hs.tm, fun j y hy => ?_, fun j y hy => ?_, hs.inj, hs.base, hs.size, hs.df, hs.below, hs.b0, fun t id hid => ?_, fun j c hc => ?_, fun j c hc hn => ?_, hs.ob, hs.ox⟩
  · have hne : j ≠ s.nx := fun e => by rw [e, hnone] at hy; cases hy
    obtain ⟨c, hc, hR⟩ := hs.blk j y hy
    exact ⟨c, by simp [look_nil, look_cons, beqF (Ne.symm hne), hc], hR⟩
  · have := hs.lt j y hy; show _ < _ + 1; omega
  · have := hs.rt t id hid; show _ < _ + 1; omega
  · by_cases e : j = s.nx
    · subst e
      simp [look_nil, look_cons] at hc; subst hc
      intro id hid; have := hrf id hid; show _ < _ + 1; omega
    · simp [look_nil, look_cons, beqF (Ne.symm e)] at hc
      intro id hid; have := hs.rb j c hc id hid; show _ < _ + 1; omega
  · by_cases e : j = s.nx
    · subst e
      simp [look_nil, look_cons] at hc; subst hc
      exact hl
    · simp [look_nil, look_cons, beqF (Ne.symm e)] at hc
      exact hs.gh j c hc hn
theorem eff_Grow : EffOk prog n_slices_Grow__string_string effGrow := by
  intro B w0 w ρ s a args vs av s' hR hav hlt hF
  unfold effGrow at hF
  split at hF
  case h_2 => cases hF
  rename_i n
  injection hF with hF
  injection hF with h1 hF
  injection hF with h2 h3
  have h1 := of_decide_eq_true h1
  obtain ⟨k, rfl⟩ := Int.eq_ofNat_of_zero_le h1.1
  match vs, hav with
  | [u, v], hav =>
  have hv : v = .int .i64 (k : Int) := hav.2.1.1
  have hu : u = .slice none 0 0 := hav.1.1
  subst hv hu
  obtain ⟨i0, hi0, hz0, hs0, hb0⟩ := infoString
  have hnone : ρ s.nx = none := by
    cases hc : ρ s.nx with
    | none => rfl
    | some x => have := hR.lt _ _ hc; omega
  subst h2 h3
  have hrefs : ∀ id ∈ AV.refs (.s (.own s.nx 0 1)), id < s.nx + 1 := by
    intro id hid
    simp [AV.refs, CV.refs, SV.refs] at hid
    subst hid; omega
  refine fat_of_calls h_slices_Grow__string_string (by kernel_rfl) (c := codeF f_slices_Grow__string_string) (by kernel_rfl) ?_
  by_cases h0 : k = 0
  · subst h0
    refine (Any8.slices_Grow_room growLay none 0 0 0 w (Nat.le_refl _) (by decide) (by decide) (Nat.le_refl _)).mono fun e w' ⟨he, hw⟩ => ⟨_, he, ρ, ?_, hrefs, ?_⟩
    · exact Or.inr ⟨hnone, rfl, rfl⟩
    · subst hw
      exact Rel.newghost (P := prog) hR hnone rfl (fun _ h => by cases h)
  · refine (Any8.slices_Grow_grow growLay i0 _ hi0 hz0 (by omega) none 0 0 k [] w (Nat.le_refl _) (by omega) (by rw [hb0]; omega) (by omega) (by rw [Nat.zero_mul]; rfl) (fun _ => rfl) (fun a h => by cases h)).mono fun e w' ⟨he, hw⟩ => ?_
    have hG := grownCap_le_maxLen w (0 + k) 0 (growRen.t 25) (by unfold maxLen; omega)
    have hr := hR.drew
    subst hw
    refine ⟨_, he, setP ρ s.nx ⟨w.heap.size, grownCap w (0 + k) 0 (growRen.t 25), 0, _⟩, ?_, hrefs, hr.newblk (x := ⟨w.heap.size, grownCap w (0 + k) 0 (growRen.t 25), 0, _⟩) rfl ⟨⟨_, (0, 0), heap_alloc_new w.drew _, ⟨Nat.zero_le _, rfl⟩, by simp, ?_⟩, rfl⟩ (by simp [Row.refs])⟩
    · refine Or.inl ⟨_, setP_same _ _ _, rfl, rfl, Nat.zero_le _, hG, ?_⟩
      have := grownCap_ge w (0 + k) 0 (growRen.t 25)
      have hz : (Value.string ⟨#[]⟩).cells.size = 1 := rfl
      simp only [Array.length_toList, Array.size_append, Builtin.zeroCells, Array.size_map, Array.size_range, hz, Nat.mul_one]
      show _ ≤ 0 + (0 + k - 0) + _
      omega
    · rfl
end Go.Eng
/- GENERATED by gen.py: what the evaluator comes to at these functions. -/
namespace Go.Eng
open Go Go.Proofs
set_option linter.unusedVariables false
set_option linter.unusedSimpArgs false
noncomputable def g_WZa : Cg := ⟨⟨gam [], [], noE⟩, []⟩
theorem WZa_ev (fu : Nat) : afunc prog f_wire_requests g_WZa fu [] =
  some (AV.s (SV.dat (TRow.ints IntKind.i64 [(32 : Int)]) (1 : Nat) (1 : Nat))) := by kernel_rfl
noncomputable def g_WZb : Cg := ⟨⟨gam [], [], noE⟩, []⟩
theorem WZb_ev (fu : Nat) : afunc prog f_wire_responses g_WZb fu [] =
  some (AV.s (SV.dat (TRow.ints IntKind.i64 ([(32 : Int)] ++ [(32 : Int)])) (2 : Nat) (1 : Nat))) := by kernel_rfl
noncomputable def g_WZc : Cg := ⟨⟨gam [], [], noE⟩, []⟩
theorem WZc_ev (fu : Nat) : afunc prog f_wire_records g_WZc fu [] =
  some (AV.s (SV.dat (TRow.ints IntKind.i64 ([(32 : Int)] ++ ([(64 : Int)] ++ [(96 : Int)]))) (3 : Nat) (1 : Nat))) := by kernel_rfl
noncomputable def g_WZd : Cg := ⟨⟨gam [], [], noE⟩, []⟩
theorem WZd_ev (fu : Nat) : afunc prog f_wire_firsts g_WZd fu [] =
  some (AV.s (SV.dat (TRow.ints IntKind.i64 ([(32 : Int)] ++ ([(32 : Int)] ++ [(32 : Int)]))) (3 : Nat) (1 : Nat))) := by kernel_rfl
noncomputable def g_WZe : Cg := ⟨⟨gam [], [], noE⟩, []⟩
theorem WZe_ev (fu : Nat) : afunc prog f_wire_seconds g_WZe fu [] =
  some (AV.s (SV.dat (TRow.ints IntKind.i64 ([(32 : Int)] ++ ([(32 : Int)] ++ ([(128 : Int)] ++ ([(32 : Int)] ++ ([(32 : Int)] ++ [(64 : Int)])))))) (6 : Nat) (1 : Nat))) := by kernel_rfl
noncomputable def g_WZf : Cg := ⟨⟨gam [], [], noE⟩, []⟩
theorem WZf_ev (fu : Nat) : afunc prog f_wire_thirds g_WZf fu [] =
  some (AV.s (SV.dat (TRow.ints IntKind.i64 [(64 : Int)]) (1 : Nat) (1 : Nat))) := by kernel_rfl
noncomputable def g_WBa (T0 : Type) (R0 : List AV → Option T0) (T1 : Type) (R1 : List AV → Option T1) (f1a : T1 → Str) (f1b : T1 → Int) : Cg := ⟨⟨gam [(n_wire_requests, ⟨R0, fun t => AV.s (SV.dat (TRow.ints IntKind.i64 ([32])) (1) 1)⟩), (n_wire_Join, ⟨R1, fun t => AV.tup [CV.s (SV.pl (Pl.str (f1a t))), CV.s (SV.pl (Pl.int IntKind.i64 (f1b t)))]⟩)], [], noE⟩, []⟩
section
variable (T0 : Type) (R0 : List AV → Option T0) (T1 : Type) (R1 : List AV → Option T1) (f1a : T1 → Str) (f1b : T1 → Int)
theorem WBa_ev (fu : Nat) (a : Str) : afunc prog f_wire_Request_Bytes (g_WBa T0 R0 T1 R1 f1a f1b) fu [AV.agg (TRow.strs [a]) (1 : Nat)] =
  (R0 []).bind fun (t : T0) =>
    (R1 [AV.s (SV.dat (TRow.ints IntKind.i64 [(32 : Int)]) (1 : Nat) (1 : Nat)), AV.s (SV.dat (TRow.strs [a]) (1 : Nat) (1 : Nat))]).bind fun (t : T1) =>
      some (AV.tup [CV.s (SV.pl (Pl.str (f1a t))), CV.s (SV.pl (Pl.int IntKind.i64 (f1b t)))]) := by kernel_rfl
end
noncomputable def g_WBb (T0 : Type) (R0 : List AV → Option T0) (T1 : Type) (R1 : List AV → Option T1) (f1a : T1 → Str) (f1b : T1 → Int) : Cg := ⟨⟨gam [(n_wire_responses, ⟨R0, fun t => AV.s (SV.dat (TRow.ints IntKind.i64 ([32, 32])) (2) 1)⟩), (n_wire_Join, ⟨R1, fun t => AV.tup [CV.s (SV.pl (Pl.str (f1a t))), CV.s (SV.pl (Pl.int IntKind.i64 (f1b t)))]⟩)], [], noE⟩, []⟩
section
variable (T0 : Type) (R0 : List AV → Option T0) (T1 : Type) (R1 : List AV → Option T1) (f1a : T1 → Str) (f1b : T1 → Int)
theorem WBb_ev (fu : Nat) (a b : Str) : afunc prog f_wire_Response_Bytes (g_WBb T0 R0 T1 R1 f1a f1b) fu [AV.agg (TRow.strs [a, b]) (2 : Nat)] =
  (R0 []).bind fun (t : T0) =>
    (R1 [AV.s (SV.dat (TRow.ints IntKind.i64 [(32 : Int), (32 : Int)]) (2 : Nat) (1 : Nat)), AV.s (SV.dat (TRow.strs ([a] ++ [b])) (2 : Nat) (1 : Nat))]).bind fun (t : T1) =>
      some (AV.tup [CV.s (SV.pl (Pl.str (f1a t))), CV.s (SV.pl (Pl.int IntKind.i64 (f1b t)))]) := by kernel_rfl
end
noncomputable def g_WBc (T0 : Type) (R0 : List AV → Option T0) (T1 : Type) (R1 : List AV → Option T1) (f1a : T1 → Str) (f1b : T1 → Int) : Cg := ⟨⟨gam [(n_wire_records, ⟨R0, fun t => AV.s (SV.dat (TRow.ints IntKind.i64 ([32, 64, 96])) (3) 1)⟩), (n_wire_Join, ⟨R1, fun t => AV.tup [CV.s (SV.pl (Pl.str (f1a t))), CV.s (SV.pl (Pl.int IntKind.i64 (f1b t)))]⟩)], [], noE⟩, []⟩
section
variable (T0 : Type) (R0 : List AV → Option T0) (T1 : Type) (R1 : List AV → Option T1) (f1a : T1 → Str) (f1b : T1 → Int)
theorem WBc_ev (fu : Nat) (a b c : Str) : afunc prog f_wire_Record_Bytes (g_WBc T0 R0 T1 R1 f1a f1b) fu [AV.agg (TRow.strs [a, b, c]) (3 : Nat)] =
  (R0 []).bind fun (t : T0) =>
    (R1 [AV.s (SV.dat (TRow.ints IntKind.i64 [(32 : Int), (64 : Int), (96 : Int)]) (3 : Nat) (1 : Nat)), AV.s (SV.dat (TRow.strs ([a] ++ ([b] ++ [c]))) (3 : Nat) (1 : Nat))]).bind fun (t : T1) =>
      some (AV.tup [CV.s (SV.pl (Pl.str (f1a t))), CV.s (SV.pl (Pl.int IntKind.i64 (f1b t)))]) := by kernel_rfl
end
noncomputable def g_WBd (T0 : Type) (R0 : List AV → Option T0) (T1 : Type) (R1 : List AV → Option T1) (f1a : T1 → Str) (f1b : T1 → Int) : Cg := ⟨⟨gam [(n_wire_firsts, ⟨R0, fun t => AV.s (SV.dat (TRow.ints IntKind.i64 ([32, 32, 32])) (3) 1)⟩), (n_wire_Join, ⟨R1, fun t => AV.tup [CV.s (SV.pl (Pl.str (f1a t))), CV.s (SV.pl (Pl.int IntKind.i64 (f1b t)))]⟩)], [], noE⟩, []⟩
section
variable (T0 : Type) (R0 : List AV → Option T0) (T1 : Type) (R1 : List AV → Option T1) (f1a : T1 → Str) (f1b : T1 → Int)
theorem WBd_ev (fu : Nat) (a b c : Str) : afunc prog f_wire_KE1_Bytes (g_WBd T0 R0 T1 R1 f1a f1b) fu [AV.agg (TRow.strs [a, b, c]) (3 : Nat)] =
  (R0 []).bind fun (t : T0) =>
    (R1 [AV.s (SV.dat (TRow.ints IntKind.i64 [(32 : Int), (32 : Int), (32 : Int)]) (3 : Nat) (1 : Nat)), AV.s (SV.dat (TRow.strs ([a] ++ ([b] ++ [c]))) (3 : Nat) (1 : Nat))]).bind fun (t : T1) =>
      some (AV.tup [CV.s (SV.pl (Pl.str (f1a t))), CV.s (SV.pl (Pl.int IntKind.i64 (f1b t)))]) := by kernel_rfl
end
noncomputable def g_WBe (T0 : Type) (R0 : List AV → Option T0) (T1 : Type) (R1 : List AV → Option T1) (f1a : T1 → Str) (f1b : T1 → Int) : Cg := ⟨⟨gam [(n_wire_seconds, ⟨R0, fun t => AV.s (SV.dat (TRow.ints IntKind.i64 ([32, 32, 128, 32, 32, 64])) (6) 1)⟩), (n_wire_Join, ⟨R1, fun t => AV.tup [CV.s (SV.pl (Pl.str (f1a t))), CV.s (SV.pl (Pl.int IntKind.i64 (f1b t)))]⟩)], [], noE⟩, []⟩
section
variable (T0 : Type) (R0 : List AV → Option T0) (T1 : Type) (R1 : List AV → Option T1) (f1a : T1 → Str) (f1b : T1 → Int)
theorem WBe_ev (fu : Nat) (a b c d e f : Str) : afunc prog f_wire_KE2_Bytes (g_WBe T0 R0 T1 R1 f1a f1b) fu [AV.agg (TRow.strs [a, b, c, d, e, f]) (6 : Nat)] =
  (R0 []).bind fun (t : T0) =>
    (R1
          [AV.s (SV.dat (TRow.ints IntKind.i64 [(32 : Int), (32 : Int), (128 : Int), (32 : Int), (32 : Int), (64 : Int)]) (6 : Nat) (1 : Nat)),
            AV.s (SV.dat (TRow.strs ([a] ++ ([b] ++ ([c] ++ ([d] ++ ([e] ++ [f])))))) (6 : Nat) (1 : Nat))]).bind
      fun (t : T1) => some (AV.tup [CV.s (SV.pl (Pl.str (f1a t))), CV.s (SV.pl (Pl.int IntKind.i64 (f1b t)))]) := by kernel_rfl
end
noncomputable def g_WBf (T0 : Type) (R0 : List AV → Option T0) (T1 : Type) (R1 : List AV → Option T1) (f1a : T1 → Str) (f1b : T1 → Int) : Cg := ⟨⟨gam [(n_wire_thirds, ⟨R0, fun t => AV.s (SV.dat (TRow.ints IntKind.i64 ([64])) (1) 1)⟩), (n_wire_Join, ⟨R1, fun t => AV.tup [CV.s (SV.pl (Pl.str (f1a t))), CV.s (SV.pl (Pl.int IntKind.i64 (f1b t)))]⟩)], [], noE⟩, []⟩
section
variable (T0 : Type) (R0 : List AV → Option T0) (T1 : Type) (R1 : List AV → Option T1) (f1a : T1 → Str) (f1b : T1 → Int)
theorem WBf_ev (fu : Nat) (a : Str) : afunc prog f_wire_KE3_Bytes (g_WBf T0 R0 T1 R1 f1a f1b) fu [AV.agg (TRow.strs [a]) (1 : Nat)] =
  (R0 []).bind fun (t : T0) =>
    (R1 [AV.s (SV.dat (TRow.ints IntKind.i64 [(64 : Int)]) (1 : Nat) (1 : Nat)), AV.s (SV.dat (TRow.strs [a]) (1 : Nat) (1 : Nat))]).bind fun (t : T1) =>
      some (AV.tup [CV.s (SV.pl (Pl.str (f1a t))), CV.s (SV.pl (Pl.int IntKind.i64 (f1b t)))]) := by kernel_rfl
end
noncomputable def g_WMa : Cg := ⟨⟨gam [], [], noE⟩, []⟩
theorem WMa_ev (fu : Nat) (a : Str) : afunc prog f_wire_ParseRequest_1 g_WMa fu [AV.s (SV.dat (TRow.strs [a]) (1 : Nat) (1 : Nat))] =
  some (AV.agg (TRow.strs [a]) (1 : Nat)) := by kernel_rfl
noncomputable def g_WMb : Cg := ⟨⟨gam [], [], noE⟩, []⟩
theorem WMb_ev (fu : Nat) (a b : Str) : afunc prog f_wire_ParseResponse_1 g_WMb fu [AV.s (SV.dat (TRow.strs [a, b]) (2 : Nat) (1 : Nat))] =
  some (AV.agg (TRow.strs ([a] ++ [b])) (2 : Nat)) := by kernel_rfl
noncomputable def g_WMc : Cg := ⟨⟨gam [], [], noE⟩, []⟩
theorem WMc_ev (fu : Nat) (a b c : Str) : afunc prog f_wire_ParseRecord_1 g_WMc fu [AV.s (SV.dat (TRow.strs [a, b, c]) (3 : Nat) (1 : Nat))] =
  some (AV.agg (TRow.strs ([a] ++ ([b] ++ [c]))) (3 : Nat)) := by kernel_rfl
noncomputable def g_WMd : Cg := ⟨⟨gam [], [], noE⟩, []⟩
theorem WMd_ev (fu : Nat) (a b c : Str) : afunc prog f_wire_ParseKE1_1 g_WMd fu [AV.s (SV.dat (TRow.strs [a, b, c]) (3 : Nat) (1 : Nat))] =
  some (AV.agg (TRow.strs ([a] ++ ([b] ++ [c]))) (3 : Nat)) := by kernel_rfl
noncomputable def g_WMe : Cg := ⟨⟨gam [], [], noE⟩, []⟩
theorem WMe_ev (fu : Nat) (a b c d e f : Str) : afunc prog f_wire_ParseKE2_1 g_WMe fu [AV.s (SV.dat (TRow.strs [a, b, c, d, e, f]) (6 : Nat) (1 : Nat))] =
  some (AV.agg (TRow.strs ([a] ++ ([b] ++ ([c] ++ ([d] ++ ([e] ++ [f])))))) (6 : Nat)) := by kernel_rfl
noncomputable def g_WMf : Cg := ⟨⟨gam [], [], noE⟩, []⟩
theorem WMf_ev (fu : Nat) (a : Str) : afunc prog f_wire_ParseKE3_1 g_WMf fu [AV.s (SV.dat (TRow.strs [a]) (1 : Nat) (1 : Nat))] =
  some (AV.agg (TRow.strs [a]) (1 : Nat)) := by kernel_rfl
noncomputable def g_WRa (T0 : Type) (R0 : List AV → Option T0) (f0a : T0 → List Str) (f0b : T0 → Nat) (f0c : T0 → Int) (T1 : Type) (R1 : List AV → Option T1) (f1a : T1 → List Str) : Cg := ⟨⟨gam [(n_wire_Split, ⟨R0, fun t => AV.tup [CV.s (SV.dat (TRow.strs (f0a t)) (f0b t) 1), CV.s (SV.pl (Pl.int IntKind.i64 (f0c t)))]⟩), (n_wire_ParseRequest_1, ⟨R1, fun t => AV.agg (TRow.strs (f1a t)) 1⟩)], [], noE⟩, []⟩
section
variable (T0 : Type) (R0 : List AV → Option T0) (f0a : T0 → List Str) (f0b : T0 → Nat) (f0c : T0 → Int) (T1 : Type) (R1 : List AV → Option T1) (f1a : T1 → List Str)
theorem WRa_ev (fu : Nat) (s : Str) (l : List Int) (n : Nat) : afunc prog f_wire_read_wire_Request (g_WRa T0 R0 f0a f0b f0c T1 R1 f1a) fu [AV.str s, AV.s (SV.dat (TRow.ints IntKind.i64 l) n (1 : Nat)), AV.s (SV.clo n_wire_ParseRequest_1 [] [])] =
  (R0 [AV.str s, AV.s (SV.dat (TRow.ints IntKind.i64 l) n (1 : Nat))]).bind fun (t : T0) =>
    bif !decide (f0c t = (0 : Int)) then some (AV.tup [CV.s (SV.pl (Pl.agg (TRow.strs [[]]) (1 : Nat))), CV.s (SV.pl (Pl.int IntKind.i64 (f0c t)))])
    else (R1 [AV.s (SV.dat (TRow.strs (f0a t)) (f0b t) (1 : Nat))]).bind fun (t : T1) => some (AV.tup [CV.s (SV.pl (Pl.agg (TRow.strs (f1a t)) (1 : Nat))), CV.s (SV.pl (Pl.int IntKind.i64 (0 : Int)))]) := by kernel_rfl
end
noncomputable def g_WRb (T0 : Type) (R0 : List AV → Option T0) (f0a : T0 → List Str) (f0b : T0 → Nat) (f0c : T0 → Int) (T1 : Type) (R1 : List AV → Option T1) (f1a : T1 → List Str) : Cg := ⟨⟨gam [(n_wire_Split, ⟨R0, fun t => AV.tup [CV.s (SV.dat (TRow.strs (f0a t)) (f0b t) 1), CV.s (SV.pl (Pl.int IntKind.i64 (f0c t)))]⟩), (n_wire_ParseResponse_1, ⟨R1, fun t => AV.agg (TRow.strs (f1a t)) 2⟩)], [], noE⟩, []⟩
section
variable (T0 : Type) (R0 : List AV → Option T0) (f0a : T0 → List Str) (f0b : T0 → Nat) (f0c : T0 → Int) (T1 : Type) (R1 : List AV → Option T1) (f1a : T1 → List Str)
theorem WRb_ev (fu : Nat) (s : Str) (l : List Int) (n : Nat) : afunc prog f_wire_read_wire_Response (g_WRb T0 R0 f0a f0b f0c T1 R1 f1a) fu [AV.str s, AV.s (SV.dat (TRow.ints IntKind.i64 l) n (1 : Nat)), AV.s (SV.clo n_wire_ParseResponse_1 [] [])] =
  (R0 [AV.str s, AV.s (SV.dat (TRow.ints IntKind.i64 l) n (1 : Nat))]).bind fun (t : T0) =>
    bif !decide (f0c t = (0 : Int)) then some (AV.tup [CV.s (SV.pl (Pl.agg (TRow.strs [[], []]) (2 : Nat))), CV.s (SV.pl (Pl.int IntKind.i64 (f0c t)))])
    else (R1 [AV.s (SV.dat (TRow.strs (f0a t)) (f0b t) (1 : Nat))]).bind fun (t : T1) => some (AV.tup [CV.s (SV.pl (Pl.agg (TRow.strs (f1a t)) (2 : Nat))), CV.s (SV.pl (Pl.int IntKind.i64 (0 : Int)))]) := by kernel_rfl
end
noncomputable def g_WRc (T0 : Type) (R0 : List AV → Option T0) (f0a : T0 → List Str) (f0b : T0 → Nat) (f0c : T0 → Int) (T1 : Type) (R1 : List AV → Option T1) (f1a : T1 → List Str) : Cg := ⟨⟨gam [(n_wire_Split, ⟨R0, fun t => AV.tup [CV.s (SV.dat (TRow.strs (f0a t)) (f0b t) 1), CV.s (SV.pl (Pl.int IntKind.i64 (f0c t)))]⟩), (n_wire_ParseRecord_1, ⟨R1, fun t => AV.agg (TRow.strs (f1a t)) 3⟩)], [], noE⟩, []⟩
section
variable (T0 : Type) (R0 : List AV → Option T0) (f0a : T0 → List Str) (f0b : T0 → Nat) (f0c : T0 → Int) (T1 : Type) (R1 : List AV → Option T1) (f1a : T1 → List Str)
theorem WRc_ev (fu : Nat) (s : Str) (l : List Int) (n : Nat) : afunc prog f_wire_read_wire_Record (g_WRc T0 R0 f0a f0b f0c T1 R1 f1a) fu [AV.str s, AV.s (SV.dat (TRow.ints IntKind.i64 l) n (1 : Nat)), AV.s (SV.clo n_wire_ParseRecord_1 [] [])] =
  (R0 [AV.str s, AV.s (SV.dat (TRow.ints IntKind.i64 l) n (1 : Nat))]).bind fun (t : T0) =>
    bif !decide (f0c t = (0 : Int)) then some (AV.tup [CV.s (SV.pl (Pl.agg (TRow.strs [[], [], []]) (3 : Nat))), CV.s (SV.pl (Pl.int IntKind.i64 (f0c t)))])
    else (R1 [AV.s (SV.dat (TRow.strs (f0a t)) (f0b t) (1 : Nat))]).bind fun (t : T1) => some (AV.tup [CV.s (SV.pl (Pl.agg (TRow.strs (f1a t)) (3 : Nat))), CV.s (SV.pl (Pl.int IntKind.i64 (0 : Int)))]) := by kernel_rfl
end
noncomputable def g_WRd (T0 : Type) (R0 : List AV → Option T0) (f0a : T0 → List Str) (f0b : T0 → Nat) (f0c : T0 → Int) (T1 : Type) (R1 : List AV → Option T1) (f1a : T1 → List Str) : Cg := ⟨⟨gam [(n_wire_Split, ⟨R0, fun t => AV.tup [CV.s (SV.dat (TRow.strs (f0a t)) (f0b t) 1), CV.s (SV.pl (Pl.int IntKind.i64 (f0c t)))]⟩), (n_wire_ParseKE1_1, ⟨R1, fun t => AV.agg (TRow.strs (f1a t)) 3⟩)], [], noE⟩, []⟩
section
variable (T0 : Type) (R0 : List AV → Option T0) (f0a : T0 → List Str) (f0b : T0 → Nat) (f0c : T0 → Int) (T1 : Type) (R1 : List AV → Option T1) (f1a : T1 → List Str)
theorem WRd_ev (fu : Nat) (s : Str) (l : List Int) (n : Nat) : afunc prog f_wire_read_wire_KE1 (g_WRd T0 R0 f0a f0b f0c T1 R1 f1a) fu [AV.str s, AV.s (SV.dat (TRow.ints IntKind.i64 l) n (1 : Nat)), AV.s (SV.clo n_wire_ParseKE1_1 [] [])] =
  (R0 [AV.str s, AV.s (SV.dat (TRow.ints IntKind.i64 l) n (1 : Nat))]).bind fun (t : T0) =>
    bif !decide (f0c t = (0 : Int)) then some (AV.tup [CV.s (SV.pl (Pl.agg (TRow.strs [[], [], []]) (3 : Nat))), CV.s (SV.pl (Pl.int IntKind.i64 (f0c t)))])
    else (R1 [AV.s (SV.dat (TRow.strs (f0a t)) (f0b t) (1 : Nat))]).bind fun (t : T1) => some (AV.tup [CV.s (SV.pl (Pl.agg (TRow.strs (f1a t)) (3 : Nat))), CV.s (SV.pl (Pl.int IntKind.i64 (0 : Int)))]) := by kernel_rfl
end
noncomputable def g_WRe (T0 : Type) (R0 : List AV → Option T0) (f0a : T0 → List Str) (f0b : T0 → Nat) (f0c : T0 → Int) (T1 : Type) (R1 : List AV → Option T1) (f1a : T1 → List Str) : Cg := ⟨⟨gam [(n_wire_Split, ⟨R0, fun t => AV.tup [CV.s (SV.dat (TRow.strs (f0a t)) (f0b t) 1), CV.s (SV.pl (Pl.int IntKind.i64 (f0c t)))]⟩), (n_wire_ParseKE2_1, ⟨R1, fun t => AV.agg (TRow.strs (f1a t)) 6⟩)], [], noE⟩, []⟩
section
variable (T0 : Type) (R0 : List AV → Option T0) (f0a : T0 → List Str) (f0b : T0 → Nat) (f0c : T0 → Int) (T1 : Type) (R1 : List AV → Option T1) (f1a : T1 → List Str)
theorem WRe_ev (fu : Nat) (s : Str) (l : List Int) (n : Nat) : afunc prog f_wire_read_wire_KE2 (g_WRe T0 R0 f0a f0b f0c T1 R1 f1a) fu [AV.str s, AV.s (SV.dat (TRow.ints IntKind.i64 l) n (1 : Nat)), AV.s (SV.clo n_wire_ParseKE2_1 [] [])] =
  (R0 [AV.str s, AV.s (SV.dat (TRow.ints IntKind.i64 l) n (1 : Nat))]).bind fun (t : T0) =>
    bif !decide (f0c t = (0 : Int)) then some (AV.tup [CV.s (SV.pl (Pl.agg (TRow.strs [[], [], [], [], [], []]) (6 : Nat))), CV.s (SV.pl (Pl.int IntKind.i64 (f0c t)))])
    else (R1 [AV.s (SV.dat (TRow.strs (f0a t)) (f0b t) (1 : Nat))]).bind fun (t : T1) => some (AV.tup [CV.s (SV.pl (Pl.agg (TRow.strs (f1a t)) (6 : Nat))), CV.s (SV.pl (Pl.int IntKind.i64 (0 : Int)))]) := by kernel_rfl
end
noncomputable def g_WRf (T0 : Type) (R0 : List AV → Option T0) (f0a : T0 → List Str) (f0b : T0 → Nat) (f0c : T0 → Int) (T1 : Type) (R1 : List AV → Option T1) (f1a : T1 → List Str) : Cg := ⟨⟨gam [(n_wire_Split, ⟨R0, fun t => AV.tup [CV.s (SV.dat (TRow.strs (f0a t)) (f0b t) 1), CV.s (SV.pl (Pl.int IntKind.i64 (f0c t)))]⟩), (n_wire_ParseKE3_1, ⟨R1, fun t => AV.agg (TRow.strs (f1a t)) 1⟩)], [], noE⟩, []⟩
section
variable (T0 : Type) (R0 : List AV → Option T0) (f0a : T0 → List Str) (f0b : T0 → Nat) (f0c : T0 → Int) (T1 : Type) (R1 : List AV → Option T1) (f1a : T1 → List Str)
theorem WRf_ev (fu : Nat) (s : Str) (l : List Int) (n : Nat) : afunc prog f_wire_read_wire_KE3 (g_WRf T0 R0 f0a f0b f0c T1 R1 f1a) fu [AV.str s, AV.s (SV.dat (TRow.ints IntKind.i64 l) n (1 : Nat)), AV.s (SV.clo n_wire_ParseKE3_1 [] [])] =
  (R0 [AV.str s, AV.s (SV.dat (TRow.ints IntKind.i64 l) n (1 : Nat))]).bind fun (t : T0) =>
    bif !decide (f0c t = (0 : Int)) then some (AV.tup [CV.s (SV.pl (Pl.agg (TRow.strs [[]]) (1 : Nat))), CV.s (SV.pl (Pl.int IntKind.i64 (f0c t)))])
    else (R1 [AV.s (SV.dat (TRow.strs (f0a t)) (f0b t) (1 : Nat))]).bind fun (t : T1) => some (AV.tup [CV.s (SV.pl (Pl.agg (TRow.strs (f1a t)) (1 : Nat))), CV.s (SV.pl (Pl.int IntKind.i64 (0 : Int)))]) := by kernel_rfl
end
noncomputable def g_WPa (T0 : Type) (R0 : List AV → Option T0) (T1 : Type) (R1 : List AV → Option T1) (f1a : T1 → List Str) (f1b : T1 → Int) (T2 : Type) (R2 : List AV → Option T2) (f2a : T2 → List Str) : Cg := ⟨⟨gam [(n_wire_requests, ⟨R0, fun t => AV.s (SV.dat (TRow.ints IntKind.i64 ([32])) (1) 1)⟩), (n_wire_read_wire_Request, ⟨R1, fun t => AV.tup [CV.s (SV.pl (Pl.agg (TRow.strs (f1a t)) 1)), CV.s (SV.pl (Pl.int IntKind.i64 (f1b t)))]⟩), (n_wire_ParseRequest_1, ⟨R2, fun t => AV.agg (TRow.strs (f2a t)) 1⟩)], [], noE⟩, []⟩
section
variable (T0 : Type) (R0 : List AV → Option T0) (T1 : Type) (R1 : List AV → Option T1) (f1a : T1 → List Str) (f1b : T1 → Int) (T2 : Type) (R2 : List AV → Option T2) (f2a : T2 → List Str)
theorem WPa_ev (fu : Nat) (s : Str) : afunc prog f_wire_ParseRequest (g_WPa T0 R0 T1 R1 f1a f1b T2 R2 f2a) fu [AV.str s] =
  (R0 []).bind fun (t : T0) =>
    (R1 [AV.str s, AV.s (SV.dat (TRow.ints IntKind.i64 [(32 : Int)]) (1 : Nat) (1 : Nat)), AV.s (SV.clo (101 : Nat) [] [])]).bind fun (t : T1) =>
      some (AV.tup [CV.s (SV.pl (Pl.agg (TRow.strs (f1a t)) (1 : Nat))), CV.s (SV.pl (Pl.int IntKind.i64 (f1b t)))]) := by kernel_rfl
end
noncomputable def g_WPb (T0 : Type) (R0 : List AV → Option T0) (T1 : Type) (R1 : List AV → Option T1) (f1a : T1 → List Str) (f1b : T1 → Int) (T2 : Type) (R2 : List AV → Option T2) (f2a : T2 → List Str) : Cg := ⟨⟨gam [(n_wire_responses, ⟨R0, fun t => AV.s (SV.dat (TRow.ints IntKind.i64 ([32, 32])) (2) 1)⟩), (n_wire_read_wire_Response, ⟨R1, fun t => AV.tup [CV.s (SV.pl (Pl.agg (TRow.strs (f1a t)) 2)), CV.s (SV.pl (Pl.int IntKind.i64 (f1b t)))]⟩), (n_wire_ParseResponse_1, ⟨R2, fun t => AV.agg (TRow.strs (f2a t)) 2⟩)], [], noE⟩, []⟩
section
variable (T0 : Type) (R0 : List AV → Option T0) (T1 : Type) (R1 : List AV → Option T1) (f1a : T1 → List Str) (f1b : T1 → Int) (T2 : Type) (R2 : List AV → Option T2) (f2a : T2 → List Str)
theorem WPb_ev (fu : Nat) (s : Str) : afunc prog f_wire_ParseResponse (g_WPb T0 R0 T1 R1 f1a f1b T2 R2 f2a) fu [AV.str s] =
  (R0 []).bind fun (t : T0) =>
    (R1 [AV.str s, AV.s (SV.dat (TRow.ints IntKind.i64 [(32 : Int), (32 : Int)]) (2 : Nat) (1 : Nat)), AV.s (SV.clo (104 : Nat) [] [])]).bind fun (t : T1) =>
      some (AV.tup [CV.s (SV.pl (Pl.agg (TRow.strs (f1a t)) (2 : Nat))), CV.s (SV.pl (Pl.int IntKind.i64 (f1b t)))]) := by kernel_rfl
end
noncomputable def g_WPc (T0 : Type) (R0 : List AV → Option T0) (T1 : Type) (R1 : List AV → Option T1) (f1a : T1 → List Str) (f1b : T1 → Int) (T2 : Type) (R2 : List AV → Option T2) (f2a : T2 → List Str) : Cg := ⟨⟨gam [(n_wire_records, ⟨R0, fun t => AV.s (SV.dat (TRow.ints IntKind.i64 ([32, 64, 96])) (3) 1)⟩), (n_wire_read_wire_Record, ⟨R1, fun t => AV.tup [CV.s (SV.pl (Pl.agg (TRow.strs (f1a t)) 3)), CV.s (SV.pl (Pl.int IntKind.i64 (f1b t)))]⟩), (n_wire_ParseRecord_1, ⟨R2, fun t => AV.agg (TRow.strs (f2a t)) 3⟩)], [], noE⟩, []⟩
section
variable (T0 : Type) (R0 : List AV → Option T0) (T1 : Type) (R1 : List AV → Option T1) (f1a : T1 → List Str) (f1b : T1 → Int) (T2 : Type) (R2 : List AV → Option T2) (f2a : T2 → List Str)
theorem WPc_ev (fu : Nat) (s : Str) : afunc prog f_wire_ParseRecord (g_WPc T0 R0 T1 R1 f1a f1b T2 R2 f2a) fu [AV.str s] =
  (R0 []).bind fun (t : T0) =>
    (R1 [AV.str s, AV.s (SV.dat (TRow.ints IntKind.i64 [(32 : Int), (64 : Int), (96 : Int)]) (3 : Nat) (1 : Nat)), AV.s (SV.clo (106 : Nat) [] [])]).bind fun (t : T1) =>
      some (AV.tup [CV.s (SV.pl (Pl.agg (TRow.strs (f1a t)) (3 : Nat))), CV.s (SV.pl (Pl.int IntKind.i64 (f1b t)))]) := by kernel_rfl
end
noncomputable def g_WPd (T0 : Type) (R0 : List AV → Option T0) (T1 : Type) (R1 : List AV → Option T1) (f1a : T1 → List Str) (f1b : T1 → Int) (T2 : Type) (R2 : List AV → Option T2) (f2a : T2 → List Str) : Cg := ⟨⟨gam [(n_wire_firsts, ⟨R0, fun t => AV.s (SV.dat (TRow.ints IntKind.i64 ([32, 32, 32])) (3) 1)⟩), (n_wire_read_wire_KE1, ⟨R1, fun t => AV.tup [CV.s (SV.pl (Pl.agg (TRow.strs (f1a t)) 3)), CV.s (SV.pl (Pl.int IntKind.i64 (f1b t)))]⟩), (n_wire_ParseKE1_1, ⟨R2, fun t => AV.agg (TRow.strs (f2a t)) 3⟩)], [], noE⟩, []⟩
section
variable (T0 : Type) (R0 : List AV → Option T0) (T1 : Type) (R1 : List AV → Option T1) (f1a : T1 → List Str) (f1b : T1 → Int) (T2 : Type) (R2 : List AV → Option T2) (f2a : T2 → List Str)
theorem WPd_ev (fu : Nat) (s : Str) : afunc prog f_wire_ParseKE1 (g_WPd T0 R0 T1 R1 f1a f1b T2 R2 f2a) fu [AV.str s] =
  (R0 []).bind fun (t : T0) =>
    (R1 [AV.str s, AV.s (SV.dat (TRow.ints IntKind.i64 [(32 : Int), (32 : Int), (32 : Int)]) (3 : Nat) (1 : Nat)), AV.s (SV.clo (108 : Nat) [] [])]).bind fun (t : T1) =>
      some (AV.tup [CV.s (SV.pl (Pl.agg (TRow.strs (f1a t)) (3 : Nat))), CV.s (SV.pl (Pl.int IntKind.i64 (f1b t)))]) := by kernel_rfl
end
noncomputable def g_WPe (T0 : Type) (R0 : List AV → Option T0) (T1 : Type) (R1 : List AV → Option T1) (f1a : T1 → List Str) (f1b : T1 → Int) (T2 : Type) (R2 : List AV → Option T2) (f2a : T2 → List Str) : Cg := ⟨⟨gam [(n_wire_seconds, ⟨R0, fun t => AV.s (SV.dat (TRow.ints IntKind.i64 ([32, 32, 128, 32, 32, 64])) (6) 1)⟩), (n_wire_read_wire_KE2, ⟨R1, fun t => AV.tup [CV.s (SV.pl (Pl.agg (TRow.strs (f1a t)) 6)), CV.s (SV.pl (Pl.int IntKind.i64 (f1b t)))]⟩), (n_wire_ParseKE2_1, ⟨R2, fun t => AV.agg (TRow.strs (f2a t)) 6⟩)], [], noE⟩, []⟩
section
variable (T0 : Type) (R0 : List AV → Option T0) (T1 : Type) (R1 : List AV → Option T1) (f1a : T1 → List Str) (f1b : T1 → Int) (T2 : Type) (R2 : List AV → Option T2) (f2a : T2 → List Str)
theorem WPe_ev (fu : Nat) (s : Str) : afunc prog f_wire_ParseKE2 (g_WPe T0 R0 T1 R1 f1a f1b T2 R2 f2a) fu [AV.str s] =
  (R0 []).bind fun (t : T0) =>
    (R1 [AV.str s, AV.s (SV.dat (TRow.ints IntKind.i64 [(32 : Int), (32 : Int), (128 : Int), (32 : Int), (32 : Int), (64 : Int)]) (6 : Nat) (1 : Nat)), AV.s (SV.clo (110 : Nat) [] [])]).bind
      fun (t : T1) => some (AV.tup [CV.s (SV.pl (Pl.agg (TRow.strs (f1a t)) (6 : Nat))), CV.s (SV.pl (Pl.int IntKind.i64 (f1b t)))]) := by kernel_rfl
end
noncomputable def g_WPf (T0 : Type) (R0 : List AV → Option T0) (T1 : Type) (R1 : List AV → Option T1) (f1a : T1 → List Str) (f1b : T1 → Int) (T2 : Type) (R2 : List AV → Option T2) (f2a : T2 → List Str) : Cg := ⟨⟨gam [(n_wire_thirds, ⟨R0, fun t => AV.s (SV.dat (TRow.ints IntKind.i64 ([64])) (1) 1)⟩), (n_wire_read_wire_KE3, ⟨R1, fun t => AV.tup [CV.s (SV.pl (Pl.agg (TRow.strs (f1a t)) 1)), CV.s (SV.pl (Pl.int IntKind.i64 (f1b t)))]⟩), (n_wire_ParseKE3_1, ⟨R2, fun t => AV.agg (TRow.strs (f2a t)) 1⟩)], [], noE⟩, []⟩
section
variable (T0 : Type) (R0 : List AV → Option T0) (T1 : Type) (R1 : List AV → Option T1) (f1a : T1 → List Str) (f1b : T1 → Int) (T2 : Type) (R2 : List AV → Option T2) (f2a : T2 → List Str)
theorem WPf_ev (fu : Nat) (s : Str) : afunc prog f_wire_ParseKE3 (g_WPf T0 R0 T1 R1 f1a f1b T2 R2 f2a) fu [AV.str s] =
  (R0 []).bind fun (t : T0) =>
    (R1 [AV.str s, AV.s (SV.dat (TRow.ints IntKind.i64 [(64 : Int)]) (1 : Nat) (1 : Nat)), AV.s (SV.clo (113 : Nat) [] [])]).bind fun (t : T1) =>
      some (AV.tup [CV.s (SV.pl (Pl.agg (TRow.strs (f1a t)) (1 : Nat))), CV.s (SV.pl (Pl.int IntKind.i64 (f1b t)))]) := by kernel_rfl
end
noncomputable def g_WAn : Cg := ⟨⟨gam [], [], noE⟩, []⟩
theorem WAn_ev (fu : Nat) (a b c d e f : Str) : afunc prog f_wire_KE2_Answer g_WAn fu [AV.agg (TRow.strs [a, b, c, d, e, f]) (6 : Nat)] =
  bif decide (List.length a + List.length b ≤ (9223372036854775807 : Nat)) then bif decide (List.length (a ++ b) + List.length c ≤ (9223372036854775807 : Nat)) then some (AV.str (a ++ b ++ c)) else none
  else none := by kernel_rfl
noncomputable def g_WAw (T0 : Type) (R0 : List AV → Option T0) (f0a : T0 → Str) (f0b : T0 → Int) : Cg := ⟨⟨gam [(n_wire_KE1_Bytes, ⟨R0, fun t => AV.tup [CV.s (SV.pl (Pl.str (f0a t))), CV.s (SV.pl (Pl.int IntKind.i64 (f0b t)))]⟩)], [], noE⟩, []⟩
section
variable (T0 : Type) (R0 : List AV → Option T0) (f0a : T0 → Str) (f0b : T0 → Int)
theorem WAw_ev (fu : Nat) : afunc prog f_opalinelaw11_awake (g_WAw T0 R0 f0a f0b) fu [] =
  (R0
        [AV.agg (TRow.strs ([List.map b8 (List.replicate (32 : Nat) (0 : Int))] ++ ([List.map b8 (List.replicate (32 : Nat) (0 : Int))] ++ [List.map b8 (List.replicate (32 : Nat) (0 : Int))])))
            (3 : Nat)]).bind
    fun (t : T0) => bif decide (f0b t = (0 : Int)) then some (AV.bool (decide ((↑(List.length (f0a t)) : Int) = (96 : Int)))) else some (AV.bool false) := by kernel_rfl
end
noncomputable def g_WCa : Cg := ⟨⟨gam [], [], efs [(n_slices_Grow__string_string, effGrow)]⟩, [(4, [0, 3, 9, 10, 11], [0, 3]), (1000004, [2], []), (12, [6, 25, 26, 27], [6]), (1000012, [2], [])]⟩
theorem WCa_ev (fu : Nat) (a : List Str) (n : Nat) : afunc prog f_slices_Concat__string_string g_WCa fu [AV.c (CV.mdat [SV.dat (TRow.strs a) n (1 : Nat)])] =
  bif decide (IntKind.i64.wrap ((0 : Int) + (↑n : Int)) < (0 : Int)) then none
  else
    bif decide ((0 : Int) ≤ IntKind.i64.wrap ((0 : Int) + (↑n : Int)) ∧ IntKind.i64.wrap ((0 : Int) + (↑n : Int)) ≤ (1099511627776 : Int)) then
      bif decide ((0 : Nat) + n ≤ (1099511627776 : Nat)) then some (AV.s (SV.dat (TRow.strs ([] ++ a)) ((0 : Nat) + n) (1 : Nat))) else none
    else none := by kernel_rfl
noncomputable def g_WCb : Cg := ⟨⟨gam [], [], efs [(n_slices_Grow__string_string, effGrow)]⟩, [(4, [0, 3, 9, 10, 11], [0, 3]), (1000004, [3], []), (12, [6, 25, 26, 27], [6]), (1000012, [3], [])]⟩
theorem WCb_ev (fu : Nat) (a : List Str) (n : Nat) (b : List Str) (m : Nat) : afunc prog f_slices_Concat__string_string g_WCb fu [AV.c (CV.mdat [SV.dat (TRow.strs a) n (1 : Nat), SV.dat (TRow.strs b) m (1 : Nat)])] =
  bif decide (IntKind.i64.wrap ((0 : Int) + (↑n : Int)) < (0 : Int)) then none
  else
    bif decide (IntKind.i64.wrap (IntKind.i64.wrap ((0 : Int) + (↑n : Int)) + (↑m : Int)) < (0 : Int)) then none
    else
      bif
          decide
            ((0 : Int) ≤ IntKind.i64.wrap (IntKind.i64.wrap ((0 : Int) + (↑n : Int)) + (↑m : Int)) ∧
              IntKind.i64.wrap (IntKind.i64.wrap ((0 : Int) + (↑n : Int)) + (↑m : Int)) ≤ (1099511627776 : Int)) then
        bif decide ((0 : Nat) + n ≤ (1099511627776 : Nat)) then
          bif decide ((0 : Nat) + n + m ≤ (1099511627776 : Nat)) then some (AV.s (SV.dat (TRow.strs ([] ++ a ++ b)) ((0 : Nat) + n + m) (1 : Nat))) else none
        else none
      else none := by kernel_rfl
noncomputable def g_WPt (T0 : Type) (R0 : List AV → Option T0) (f0a : T0 → List Str) (f0b : T0 → Int) (T1 : Type) (R1 : List AV → Option T1) (f1a : T1 → Str) (f1b : T1 → Int) (T2 : Type) (R2 : List AV → Option T2) (f2a : T2 → List Str) (f2b : T2 → Int) (T3 : Type) (R3 : List AV → Option T3) (f3a : T3 → Str) (f3b : T3 → Int) (T4 : Type) (R4 : List AV → Option T4) (f4a : T4 → List Str) (f4b : T4 → Int) (T5 : Type) (R5 : List AV → Option T5) (f5a : T5 → Str) (f5b : T5 → Int) (T6 : Type) (R6 : List AV → Option T6) (f6a : T6 → List Str) (f6b : T6 → Int) (T7 : Type) (R7 : List AV → Option T7) (f7a : T7 → Str) (f7b : T7 → Int) (T8 : Type) (R8 : List AV → Option T8) (f8a : T8 → List Str) (f8b : T8 → Int) (T9 : Type) (R9 : List AV → Option T9) (f9a : T9 → Str) (f9b : T9 → Int) (T10 : Type) (R10 : List AV → Option T10) (f10a : T10 → List Str) (f10b : T10 → Int) (T11 : Type) (R11 : List AV → Option T11) (f11a : T11 → Str) (f11b : T11 → Int) : Cg := ⟨⟨gam [(n_wire_ParseRequest, ⟨R0, fun t => AV.tup [CV.s (SV.pl (Pl.agg (TRow.strs (f0a t)) 1)), CV.s (SV.pl (Pl.int IntKind.i64 (f0b t)))]⟩), (n_wire_Request_Bytes, ⟨R1, fun t => AV.tup [CV.s (SV.pl (Pl.str (f1a t))), CV.s (SV.pl (Pl.int IntKind.i64 (f1b t)))]⟩), (n_wire_ParseResponse, ⟨R2, fun t => AV.tup [CV.s (SV.pl (Pl.agg (TRow.strs (f2a t)) 2)), CV.s (SV.pl (Pl.int IntKind.i64 (f2b t)))]⟩), (n_wire_Response_Bytes, ⟨R3, fun t => AV.tup [CV.s (SV.pl (Pl.str (f3a t))), CV.s (SV.pl (Pl.int IntKind.i64 (f3b t)))]⟩), (n_wire_ParseRecord, ⟨R4, fun t => AV.tup [CV.s (SV.pl (Pl.agg (TRow.strs (f4a t)) 3)), CV.s (SV.pl (Pl.int IntKind.i64 (f4b t)))]⟩), (n_wire_Record_Bytes, ⟨R5, fun t => AV.tup [CV.s (SV.pl (Pl.str (f5a t))), CV.s (SV.pl (Pl.int IntKind.i64 (f5b t)))]⟩), (n_wire_ParseKE1, ⟨R6, fun t => AV.tup [CV.s (SV.pl (Pl.agg (TRow.strs (f6a t)) 3)), CV.s (SV.pl (Pl.int IntKind.i64 (f6b t)))]⟩), (n_wire_KE1_Bytes, ⟨R7, fun t => AV.tup [CV.s (SV.pl (Pl.str (f7a t))), CV.s (SV.pl (Pl.int IntKind.i64 (f7b t)))]⟩), (n_wire_ParseKE2, ⟨R8, fun t => AV.tup [CV.s (SV.pl (Pl.agg (TRow.strs (f8a t)) 6)), CV.s (SV.pl (Pl.int IntKind.i64 (f8b t)))]⟩), (n_wire_KE2_Bytes, ⟨R9, fun t => AV.tup [CV.s (SV.pl (Pl.str (f9a t))), CV.s (SV.pl (Pl.int IntKind.i64 (f9b t)))]⟩), (n_wire_ParseKE3, ⟨R10, fun t => AV.tup [CV.s (SV.pl (Pl.agg (TRow.strs (f10a t)) 1)), CV.s (SV.pl (Pl.int IntKind.i64 (f10b t)))]⟩), (n_wire_KE3_Bytes, ⟨R11, fun t => AV.tup [CV.s (SV.pl (Pl.str (f11a t))), CV.s (SV.pl (Pl.int IntKind.i64 (f11b t)))]⟩)], [], noE⟩, []⟩
section
variable (T0 : Type) (R0 : List AV → Option T0) (f0a : T0 → List Str) (f0b : T0 → Int) (T1 : Type) (R1 : List AV → Option T1) (f1a : T1 → Str) (f1b : T1 → Int) (T2 : Type) (R2 : List AV → Option T2) (f2a : T2 → List Str) (f2b : T2 → Int) (T3 : Type) (R3 : List AV → Option T3) (f3a : T3 → Str) (f3b : T3 → Int) (T4 : Type) (R4 : List AV → Option T4) (f4a : T4 → List Str) (f4b : T4 → Int) (T5 : Type) (R5 : List AV → Option T5) (f5a : T5 → Str) (f5b : T5 → Int) (T6 : Type) (R6 : List AV → Option T6) (f6a : T6 → List Str) (f6b : T6 → Int) (T7 : Type) (R7 : List AV → Option T7) (f7a : T7 → Str) (f7b : T7 → Int) (T8 : Type) (R8 : List AV → Option T8) (f8a : T8 → List Str) (f8b : T8 → Int) (T9 : Type) (R9 : List AV → Option T9) (f9a : T9 → Str) (f9b : T9 → Int) (T10 : Type) (R10 : List AV → Option T10) (f10a : T10 → List Str) (f10b : T10 → Int) (T11 : Type) (R11 : List AV → Option T11) (f11a : T11 → Str) (f11b : T11 → Int)
theorem WPt_ev (fu : Nat) (s : Str) (m : Int) : afunc prog f_opalinelaw11_parts (g_WPt T0 R0 f0a f0b T1 R1 f1a f1b T2 R2 f2a f2b T3 R3 f3a f3b T4 R4 f4a f4b T5 R5 f5a f5b T6 R6 f6a f6b T7 R7 f7a f7b T8 R8 f8a f8b T9 R9 f9a f9b T10 R10 f10a f10b T11 R11 f11a f11b) fu [AV.str s, AV.int IntKind.i64 m] =
  bif decide (m = (0 : Int)) then
    (R0 [AV.str s]).bind fun (t : T0) =>
      (R1 [AV.agg (TRow.strs (f0a t)) (1 : Nat)]).bind fun (t_1 : T1) =>
        some
          (AV.tup
            [CV.s (SV.dat (TRow.strs [(f0a t).getD (0 : Nat) []]) (1 : Nat) (1 : Nat)), CV.s (SV.pl (Pl.str (f1a t_1))), CV.s (SV.pl (Pl.int IntKind.i64 (f0b t))),
              CV.s (SV.pl (Pl.int IntKind.i64 (f1b t_1)))])
  else
    bif decide (m = (1 : Int)) then
      (R2 [AV.str s]).bind fun (t : T2) =>
        (R3 [AV.agg (TRow.strs (f2a t)) (2 : Nat)]).bind fun (t_1 : T3) =>
          some
            (AV.tup
              [CV.s (SV.dat (TRow.strs ([(f2a t).getD (0 : Nat) []] ++ [(f2a t).getD (1 : Nat) []])) (2 : Nat) (1 : Nat)), CV.s (SV.pl (Pl.str (f3a t_1))), CV.s (SV.pl (Pl.int IntKind.i64 (f2b t))),
                CV.s (SV.pl (Pl.int IntKind.i64 (f3b t_1)))])
    else
      bif decide (m = (2 : Int)) then
        (R4 [AV.str s]).bind fun (t : T4) =>
          (R5 [AV.agg (TRow.strs (f4a t)) (3 : Nat)]).bind fun (t_1 : T5) =>
            some
              (AV.tup
                [CV.s (SV.dat (TRow.strs ([(f4a t).getD (0 : Nat) []] ++ ([(f4a t).getD (1 : Nat) []] ++ [(f4a t).getD (2 : Nat) []]))) (3 : Nat) (1 : Nat)), CV.s (SV.pl (Pl.str (f5a t_1))),
                  CV.s (SV.pl (Pl.int IntKind.i64 (f4b t))), CV.s (SV.pl (Pl.int IntKind.i64 (f5b t_1)))])
      else
        bif decide (m = (3 : Int)) then
          (R6 [AV.str s]).bind fun (t : T6) =>
            (R7 [AV.agg (TRow.strs (f6a t)) (3 : Nat)]).bind fun (t_1 : T7) =>
              some
                (AV.tup
                  [CV.s (SV.dat (TRow.strs ([(f6a t).getD (0 : Nat) []] ++ ([(f6a t).getD (1 : Nat) []] ++ [(f6a t).getD (2 : Nat) []]))) (3 : Nat) (1 : Nat)), CV.s (SV.pl (Pl.str (f7a t_1))),
                    CV.s (SV.pl (Pl.int IntKind.i64 (f6b t))), CV.s (SV.pl (Pl.int IntKind.i64 (f7b t_1)))])
        else
          bif decide (m = (4 : Int)) then
            (R8 [AV.str s]).bind fun (t : T8) =>
              (R9 [AV.agg (TRow.strs (f8a t)) (6 : Nat)]).bind fun (t_1 : T9) =>
                some
                  (AV.tup
                    [CV.s
                        (SV.dat
                          (TRow.strs
                            ([(f8a t).getD (0 : Nat) []] ++
                              ([(f8a t).getD (1 : Nat) []] ++ ([(f8a t).getD (2 : Nat) []] ++ ([(f8a t).getD (3 : Nat) []] ++ ([(f8a t).getD (4 : Nat) []] ++ [(f8a t).getD (5 : Nat) []]))))))
                          (6 : Nat) (1 : Nat)),
                      CV.s (SV.pl (Pl.str (f9a t_1))), CV.s (SV.pl (Pl.int IntKind.i64 (f8b t))), CV.s (SV.pl (Pl.int IntKind.i64 (f9b t_1)))])
          else
            (R10 [AV.str s]).bind fun (t : T10) =>
              (R11 [AV.agg (TRow.strs (f10a t)) (1 : Nat)]).bind fun (t_1 : T11) =>
                some
                  (AV.tup
                    [CV.s (SV.dat (TRow.strs [(f10a t).getD (0 : Nat) []]) (1 : Nat) (1 : Nat)), CV.s (SV.pl (Pl.str (f11a t_1))), CV.s (SV.pl (Pl.int IntKind.i64 (f10b t))),
                      CV.s (SV.pl (Pl.int IntKind.i64 (f11b t_1)))]) := by kernel_rfl
end
noncomputable def g_WLW (T0 : Type) (R0 : List AV → Option T0) (T1 : Type) (R1 : List AV → Option T1) (f1a : T1 → List Str) (f1b : T1 → Nat) (T2 : Type) (R2 : List AV → Option T2) (f2a : T2 → Str) (f2b : T2 → Int) (T3 : Type) (R3 : List AV → Option T3) (f3a : T3 → List Int) (f3b : T3 → Nat) (T4 : Type) (R4 : List AV → Option T4) (f4a : T4 → Str) (f4b : T4 → Int) (T5 : Type) (R5 : List AV → Option T5) (f5a : T5 → Str) (f5b : T5 → Int) (T6 : Type) (R6 : List AV → Option T6) (f6a : T6 → List UInt8) : Cg := ⟨⟨gam [(n_opalinelaw11_awake, ⟨R0, fun t => AV.bool (true)⟩), (n_slices_Concat__string_string, ⟨R1, fun t => AV.s (SV.dat (TRow.strs (f1a t)) (f1b t) 1)⟩), (n_wire_KE2_Bytes, ⟨R2, fun t => AV.tup [CV.s (SV.pl (Pl.str (f2a t))), CV.s (SV.pl (Pl.int IntKind.i64 (f2b t)))]⟩), (n_opalineref11_Sizes, ⟨R3, fun t => AV.s (SV.dat (TRow.ints IntKind.i64 (f3a t)) (f3b t) 1)⟩), (n_opalineref11_Join, ⟨R4, fun t => AV.tup [CV.s (SV.pl (Pl.str (f4a t))), CV.s (SV.pl (Pl.int IntKind.i64 (f4b t)))]⟩), (n_wire_Record_Bytes, ⟨R5, fun t => AV.tup [CV.s (SV.pl (Pl.str (f5a t))), CV.s (SV.pl (Pl.int IntKind.i64 (f5b t)))]⟩), (n_wire_KE2_Answer, ⟨R6, fun t => AV.str (f6a t)⟩)], [], noE⟩, [(7, [2, 3, 5, 6, 42, 43, 44], [2, 3, 4, 5, 6])]⟩
section
variable (T0 : Type) (R0 : List AV → Option T0) (T1 : Type) (R1 : List AV → Option T1) (f1a : T1 → List Str) (f1b : T1 → Nat) (T2 : Type) (R2 : List AV → Option T2) (f2a : T2 → Str) (f2b : T2 → Int) (T3 : Type) (R3 : List AV → Option T3) (f3a : T3 → List Int) (f3b : T3 → Nat) (T4 : Type) (R4 : List AV → Option T4) (f4a : T4 → Str) (f4b : T4 → Int) (T5 : Type) (R5 : List AV → Option T5) (f5a : T5 → Str) (f5b : T5 → Int) (T6 : Type) (R6 : List AV → Option T6) (f6a : T6 → List UInt8)
noncomputable def WLW_s1 (x5 : List Str) (n5 : Nat) (x6 : List Str) (n6 : Nat) (x42 : List Str) (n42 : Nat) (v43 v44 : Int) (x_0 x_1 : List Str) : St :=
  { tm := [((2 : Nat), AV.s (SV.ptr (0 : Nat) (0 : Nat) (6 : Nat))), ((3 : Nat), AV.s (SV.ptr (1 : Nat) (0 : Nat) (3 : Nat))), ((5 : Nat), AV.s (SV.dat (TRow.strs x5) n5 (1 : Nat))), ((6 : Nat), AV.s (SV.dat (TRow.strs x6) n6 (1 : Nat))), ((42 : Nat), AV.s (SV.dat (TRow.strs x42) n42 (1 : Nat))), ((43 : Nat), AV.int IntKind.i64 v43), ((44 : Nat), AV.int IntKind.i64 v44)], hp := [((0 : Nat), { ty := (23 : Nat), n := (6 : Nat), row := Row.t (TRow.strs x_0) }), ((1 : Nat), { ty := (25 : Nat), n := (3 : Nat), row := Row.t (TRow.strs x_1) })], nx := (2 : Nat), sz := (105 : Nat) }
noncomputable def WLW_b1 : Code := bodyL (codeAt [1, 1, 1, 1, 0, 1, 2] (codeF f_opalinelaw11_WireWrites))
noncomputable def WLW_k1 (fu : Nat) := kAt prog (g_WLW T0 R0 T1 R1 f1a f1b T2 R2 f2a f2b T3 R3 f3a f3b T4 R4 f4a f4b T5 R5 f5a f5b T6 R6 f6a) fu [1, 1, 1, 1, 0, 1, 2] (codeF f_opalinelaw11_WireWrites) (kFin prog f_opalinelaw11_WireWrites)
noncomputable abbrev WLW_L1 (fu : Nat) (x5 : List Str) (n5 : Nat) (x6 : List Str) (n6 : Nat) (x42 : List Str) (n42 : Nat) (v43 v44 : Int) (x_0 x_1 : List Str) := lpA prog (g_WLW T0 R0 T1 R1 f1a f1b T2 R2 f2a f2b T3 R3 f3a f3b T4 R4 f4a f4b T5 R5 f5a f5b T6 R6 f6a) fu WLW_b1 (WLW_k1 T0 R0 T1 R1 f1a f1b T2 R2 f2a f2b T3 R3 f3a f3b T4 R4 f4a f4b T5 R5 f5a f5b T6 R6 f6a fu ) fu (some (WLW_s1 x5 n5 x6 n6 x42 n42 v43 v44 x_0 x_1))
theorem WLW_ev (fu : Nat) (a b c d e f g h i : Str) : afunc prog f_opalinelaw11_WireWrites (g_WLW T0 R0 T1 R1 f1a f1b T2 R2 f2a f2b T3 R3 f3a f3b T4 R4 f4a f4b T5 R5 f5a f5b T6 R6 f6a) fu [AV.agg (TRow.strs [a, b, c, d, e, f]) (6 : Nat), AV.agg (TRow.strs [g, h, i]) (3 : Nat)] =
  (R0 []).bind fun (t : T0) =>
    (R1 [AV.c (CV.mdat [SV.dat (TRow.strs ([a] ++ ([b] ++ ([c] ++ ([d] ++ ([e] ++ [f])))))) (6 : Nat) (1 : Nat), SV.dat (TRow.strs ([g] ++ ([h] ++ [i]))) (3 : Nat) (1 : Nat)])]).bind fun (t : T1) =>
      WLW_L1 T0 R0 T1 R1 f1a f1b T2 R2 f2a f2b T3 R3 f3a f3b T4 R4 f4a f4b T5 R5 f5a f5b T6 R6 f6a fu ([a] ++ ([b] ++ ([c] ++ ([d] ++ ([e] ++ [f]))))) (6 : Nat) ([g] ++ ([h] ++ [i])) (3 : Nat) (f1a t)
        (f1b t) (↑(f1b t) : Int) (0 : Int) [a, b, c, d, e, f] [g, h, i] := by kernel_rfl
noncomputable def WLW_o1r (b4 : Bool) (x5 : List Str) (n5 : Nat) (x6 : List Str) (n6 : Nat) (x_0 x_1 : List Str) : St :=
  { tm := [((2 : Nat), AV.s (SV.ptr (0 : Nat) (0 : Nat) (6 : Nat))), ((3 : Nat), AV.s (SV.ptr (1 : Nat) (0 : Nat) (3 : Nat))), ((4 : Nat), AV.bool b4), ((5 : Nat), AV.s (SV.dat (TRow.strs x5) n5 (1 : Nat))), ((6 : Nat), AV.s (SV.dat (TRow.strs x6) n6 (1 : Nat)))], hp := [((0 : Nat), { ty := (23 : Nat), n := (6 : Nat), row := Row.t (TRow.strs x_0) }), ((1 : Nat), { ty := (25 : Nat), n := (3 : Nat), row := Row.t (TRow.strs x_1) })], nx := (2 : Nat), sz := (105 : Nat) }
noncomputable def WLW_o1e0 (x5 : List Str) (n5 : Nat) (x6 : List Str) (n6 : Nat) (x_0 x_1 : List Str) : St :=
  { tm := [((2 : Nat), AV.s (SV.ptr (0 : Nat) (0 : Nat) (6 : Nat))), ((3 : Nat), AV.s (SV.ptr (1 : Nat) (0 : Nat) (3 : Nat))), ((4 : Nat), AV.s SV.junk), ((5 : Nat), AV.s (SV.dat (TRow.strs x5) n5 (1 : Nat))), ((6 : Nat), AV.s (SV.dat (TRow.strs x6) n6 (1 : Nat)))], hp := [((0 : Nat), { ty := (23 : Nat), n := (6 : Nat), row := Row.t (TRow.strs x_0) }), ((1 : Nat), { ty := (25 : Nat), n := (3 : Nat), row := Row.t (TRow.strs x_1) })], nx := (2 : Nat), sz := (105 : Nat) }
theorem WLW_r1 {β : Type} (fu : Nat) (G : Option St → Option β) (H : Ex → Option St → Option β) (x5 : List Str) (n5 : Nat) (x6 : List Str) (n6 : Nat) (x42 : List Str) (n42 : Nat) (v43 v44 : Int) (x_0 x_1 : List Str) : lpR prog (g_WLW T0 R0 T1 R1 f1a f1b T2 R2 f2a f2b T3 R3 f3a f3b T4 R4 f4a f4b T5 R5 f5a f5b T6 R6 f6a) fu WLW_b1 G H (WLW_s1 x5 n5 x6 n6 x42 n42 v43 v44 x_0 x_1) =
  bif decide (v44 < v43) then
    bif decide ((0 : Int) ≤ v44 ∧ v44 < (↑n42 : Int)) then
      bif decide ((300 : Int) < (↑(List.length (x42.getD v44.toNat [])) : Int)) then H Ex.ret (some (WLW_o1r true x5 n5 x6 n6 x_0 x_1))
      else G (some (WLW_s1 x5 n5 x6 n6 x42 n42 v43 (IntKind.i64.wrap (v44 + (1 : Int))) x_0 x_1))
    else none
  else H (Ex.exit (0 : Nat)) (some (WLW_o1e0 x5 n5 x6 n6 x_0 x_1)) := by kernel_rfl
theorem WLW_c1r (fu : Nat) (b4 : Bool) (x5 : List Str) (n5 : Nat) (x6 : List Str) (n6 : Nat) (x_0 x_1 : List Str) : WLW_k1 T0 R0 T1 R1 f1a f1b T2 R2 f2a f2b T3 R3 f3a f3b T4 R4 f4a f4b T5 R5 f5a f5b T6 R6 f6a fu  Ex.ret (WLW_o1r b4 x5 n5 x6 n6 x_0 x_1) =
  some (AV.bool b4) := by kernel_rfl
theorem WLW_c1e0 (fu : Nat) (x5 : List Str) (n5 : Nat) (x6 : List Str) (n6 : Nat) (x_0 x_1 : List Str) : WLW_k1 T0 R0 T1 R1 f1a f1b T2 R2 f2a f2b T3 R3 f3a f3b T4 R4 f4a f4b T5 R5 f5a f5b T6 R6 f6a fu  (Ex.exit 0) (WLW_o1e0 x5 n5 x6 n6 x_0 x_1) =
  (R2 [AV.agg (TRow.strs x_0) (6 : Nat)]).bind fun (t : T2) =>
    (R3 [AV.int IntKind.i64 (4 : Int)]).bind fun (t_1 : T3) =>
      (R4 [AV.s (SV.dat (TRow.ints IntKind.i64 (f3a t_1)) (f3b t_1) (1 : Nat)), AV.s (SV.dat (TRow.strs x5) n5 (1 : Nat))]).bind fun (t_2 : T4) =>
        (R5 [AV.agg (TRow.strs x_1) (3 : Nat)]).bind fun (t_3 : T5) =>
          (R3 [AV.int IntKind.i64 (2 : Int)]).bind fun (t_4 : T3) =>
            (R4 [AV.s (SV.dat (TRow.ints IntKind.i64 (f3a t_4)) (f3b t_4) (1 : Nat)), AV.s (SV.dat (TRow.strs x6) n6 (1 : Nat))]).bind fun (t_5 : T4) =>
              bif decide (f2a t = f4a t_2) then
                bif decide (f2b t = f4b t_2) then
                  bif decide (f5a t_3 = f4a t_5) then
                    bif decide (f5b t_3 = f4b t_5) then
                      (R6 [AV.agg (TRow.strs x_0) (6 : Nat)]).bind fun (t : T6) =>
                        bif decide (List.length (x_0.getD (0 : Nat) []) + List.length (x_0.getD (1 : Nat) []) ≤ (9223372036854775807 : Nat)) then
                          bif decide (List.length (x_0.getD (0 : Nat) [] ++ x_0.getD (1 : Nat) []) + List.length (x_0.getD (2 : Nat) []) ≤ (9223372036854775807 : Nat)) then
                            some (AV.bool (decide (f6a t = x_0.getD (0 : Nat) [] ++ x_0.getD (1 : Nat) [] ++ x_0.getD (2 : Nat) [])))
                          else none
                        else none
                    else some (AV.bool false)
                  else some (AV.bool false)
                else some (AV.bool false)
              else some (AV.bool false) := by kernel_rfl
end
noncomputable def g_WLC (T0 : Type) (R0 : List AV → Option T0) (T1 : Type) (R1 : List AV → Option T1) (f1a : T1 → List Str) (f1b : T1 → Nat) (f1c : T1 → Int) (T2 : Type) (R2 : List AV → Option T2) (f2a : T2 → List Str) (f2b : T2 → Nat) (f2c : T2 → Int) (T3 : Type) (R3 : List AV → Option T3) (f3a : T3 → Str) (f3b : T3 → Int) (T4 : Type) (R4 : List AV → Option T4) (f4a : T4 → Str) (f4b : T4 → Int) (T5 : Type) (R5 : List AV → Option T5) (f5a : T5 → Bool) : Cg := ⟨⟨gam [(n_opalinelaw11_awake, ⟨R0, fun t => AV.bool (true)⟩), (n_wire_Split, ⟨R1, fun t => AV.tup [CV.s (SV.dat (TRow.strs (f1a t)) (f1b t) 1), CV.s (SV.pl (Pl.int IntKind.i64 (f1c t)))]⟩), (n_opalineref11_Split, ⟨R2, fun t => AV.tup [CV.s (SV.dat (TRow.strs (f2a t)) (f2b t) 1), CV.s (SV.pl (Pl.int IntKind.i64 (f2c t)))]⟩), (n_wire_Join, ⟨R3, fun t => AV.tup [CV.s (SV.pl (Pl.str (f3a t))), CV.s (SV.pl (Pl.int IntKind.i64 (f3b t)))]⟩), (n_opalineref11_Join, ⟨R4, fun t => AV.tup [CV.s (SV.pl (Pl.str (f4a t))), CV.s (SV.pl (Pl.int IntKind.i64 (f4b t)))]⟩), (n_slices_Equal__string_string, ⟨R5, fun t => AV.bool (f5a t)⟩)], [], noE⟩, []⟩
section
variable (T0 : Type) (R0 : List AV → Option T0) (T1 : Type) (R1 : List AV → Option T1) (f1a : T1 → List Str) (f1b : T1 → Nat) (f1c : T1 → Int) (T2 : Type) (R2 : List AV → Option T2) (f2a : T2 → List Str) (f2b : T2 → Nat) (f2c : T2 → Int) (T3 : Type) (R3 : List AV → Option T3) (f3a : T3 → Str) (f3b : T3 → Int) (T4 : Type) (R4 : List AV → Option T4) (f4a : T4 → Str) (f4b : T4 → Int) (T5 : Type) (R5 : List AV → Option T5) (f5a : T5 → Bool)
theorem WLC_ev (fu : Nat) (s : Str) (l : List Int) (n : Nat) (ps : List Str) (m : Nat) : afunc prog f_opalinelaw11_WireCuts (g_WLC T0 R0 T1 R1 f1a f1b f1c T2 R2 f2a f2b f2c T3 R3 f3a f3b T4 R4 f4a f4b T5 R5 f5a) fu [AV.str s, AV.s (SV.dat (TRow.ints IntKind.i64 l) n (1 : Nat)), AV.s (SV.dat (TRow.strs ps) m (1 : Nat))] =
  (R0 []).bind fun (t : T0) =>
    bif decide ((1000 : Int) < (↑(List.length s) : Int)) then some (AV.bool true)
    else
      bif decide ((20 : Int) < (↑n : Int)) then some (AV.bool true)
      else
        bif decide ((20 : Int) < (↑m : Int)) then some (AV.bool true)
        else
          (R1 [AV.str s, AV.s (SV.dat (TRow.ints IntKind.i64 l) n (1 : Nat))]).bind fun (t : T1) =>
            (R2 [AV.str s, AV.s (SV.dat (TRow.ints IntKind.i64 l) n (1 : Nat))]).bind fun (t_1 : T2) =>
              (R3 [AV.s (SV.dat (TRow.ints IntKind.i64 l) n (1 : Nat)), AV.s (SV.dat (TRow.strs ps) m (1 : Nat))]).bind fun (t_2 : T3) =>
                (R4 [AV.s (SV.dat (TRow.ints IntKind.i64 l) n (1 : Nat)), AV.s (SV.dat (TRow.strs ps) m (1 : Nat))]).bind fun (t_3 : T4) =>
                  (R5 [AV.s (SV.dat (TRow.strs (f1a t)) (f1b t) (1 : Nat)), AV.s (SV.dat (TRow.strs (f2a t_1)) (f2b t_1) (1 : Nat))]).bind fun (t_4 : T5) =>
                    bif !f5a t_4 || !decide (f1c t = f2c t_1) || !decide (f3a t_2 = f4a t_3) || !decide (f3b t_2 = f4b t_3) then some (AV.bool false)
                    else
                      (R3 [AV.s (SV.dat (TRow.ints IntKind.i64 l) n (1 : Nat)), AV.s (SV.dat (TRow.strs (f1a t)) (f1b t) (1 : Nat))]).bind fun (t_5 : T3) =>
                        bif (!decide (f1c t = (0 : Int))) == false then some (AV.bool (decide (f3b t_5 = (0 : Int)) && decide (f3a t_5 = s))) else some (AV.bool true) := by kernel_rfl
end
noncomputable def g_WLR (T0 : Type) (R0 : List AV → Option T0) (T1 : Type) (R1 : List AV → Option T1) (f1a : T1 → List Str) (f1b : T1 → Nat) (f1c : T1 → Str) (f1d : T1 → Int) (f1e : T1 → Int) (T2 : Type) (R2 : List AV → Option T2) (f2a : T2 → List Int) (f2b : T2 → Nat) (T3 : Type) (R3 : List AV → Option T3) (f3a : T3 → List Str) (f3b : T3 → Nat) (f3c : T3 → Int) (T4 : Type) (R4 : List AV → Option T4) (f4a : T4 → Bool) (T5 : Type) (R5 : List AV → Option T5) (f5a : T5 → List Str) (f5b : T5 → Nat) : Cg := ⟨⟨gam [(n_opalinelaw11_awake, ⟨R0, fun t => AV.bool (true)⟩), (n_opalinelaw11_parts, ⟨R1, fun t => AV.tup [CV.s (SV.dat (TRow.strs (f1a t)) (f1b t) 1), CV.s (SV.pl (Pl.str (f1c t))), CV.s (SV.pl (Pl.int IntKind.i64 (f1d t))), CV.s (SV.pl (Pl.int IntKind.i64 (f1e t)))]⟩), (n_opalineref11_Sizes, ⟨R2, fun t => AV.s (SV.dat (TRow.ints IntKind.i64 (f2a t)) (f2b t) 1)⟩), (n_opalineref11_Split, ⟨R3, fun t => AV.tup [CV.s (SV.dat (TRow.strs (f3a t)) (f3b t) 1), CV.s (SV.pl (Pl.int IntKind.i64 (f3c t)))]⟩), (n_slices_Equal__string_string, ⟨R4, fun t => AV.bool (f4a t)⟩), (n_slices_Concat__string_string, ⟨R5, fun t => AV.s (SV.dat (TRow.strs (f5a t)) (f5b t) 1)⟩)], [], noE⟩, [(7, [0, 15], [2])]⟩
section
variable (T0 : Type) (R0 : List AV → Option T0) (T1 : Type) (R1 : List AV → Option T1) (f1a : T1 → List Str) (f1b : T1 → Nat) (f1c : T1 → Str) (f1d : T1 → Int) (f1e : T1 → Int) (T2 : Type) (R2 : List AV → Option T2) (f2a : T2 → List Int) (f2b : T2 → Nat) (T3 : Type) (R3 : List AV → Option T3) (f3a : T3 → List Str) (f3b : T3 → Nat) (f3c : T3 → Int) (T4 : Type) (R4 : List AV → Option T4) (f4a : T4 → Bool) (T5 : Type) (R5 : List AV → Option T5) (f5a : T5 → List Str) (f5b : T5 → Nat)
noncomputable def WLR_s1 (s0 : Str) (v15 : Int) : St :=
  { tm := [((0 : Nat), AV.str s0), ((15 : Nat), AV.int IntKind.i64 v15)], hp := [], nx := (0 : Nat), sz := (76 : Nat) }
noncomputable def WLR_b1 : Code := bodyL (codeAt [1, 1, 1, 0, 1, 2] (codeF f_opalinelaw11_WireReads))
noncomputable def WLR_k1 (fu : Nat) := kAt prog (g_WLR T0 R0 T1 R1 f1a f1b f1c f1d f1e T2 R2 f2a f2b T3 R3 f3a f3b f3c T4 R4 f4a T5 R5 f5a f5b) fu [1, 1, 1, 0, 1, 2] (codeF f_opalinelaw11_WireReads) (kFin prog f_opalinelaw11_WireReads)
noncomputable abbrev WLR_L1 (fu : Nat) (s0 : Str) (v15 : Int) := lpA prog (g_WLR T0 R0 T1 R1 f1a f1b f1c f1d f1e T2 R2 f2a f2b T3 R3 f3a f3b f3c T4 R4 f4a T5 R5 f5a f5b) fu WLR_b1 (WLR_k1 T0 R0 T1 R1 f1a f1b f1c f1d f1e T2 R2 f2a f2b T3 R3 f3a f3b f3c T4 R4 f4a T5 R5 f5a f5b fu ) fu (some (WLR_s1 s0 v15))
theorem WLR_ev (fu : Nat) (s : Str) : afunc prog f_opalinelaw11_WireReads (g_WLR T0 R0 T1 R1 f1a f1b f1c f1d f1e T2 R2 f2a f2b T3 R3 f3a f3b f3c T4 R4 f4a T5 R5 f5a f5b) fu [AV.str s] =
  (R0 []).bind fun (t : T0) =>
    bif decide ((1000 : Int) < (↑(List.length s) : Int)) then some (AV.bool true) else WLR_L1 T0 R0 T1 R1 f1a f1b f1c f1d f1e T2 R2 f2a f2b T3 R3 f3a f3b f3c T4 R4 f4a T5 R5 f5a f5b fu s (0 : Int) := by kernel_rfl
noncomputable def WLR_o1r (b2 : Bool) : St :=
  { tm := [((2 : Nat), AV.bool b2)], hp := [], nx := (0 : Nat), sz := (76 : Nat) }
noncomputable def WLR_o1e0 : St :=
  { tm := [((2 : Nat), AV.s SV.junk)], hp := [], nx := (0 : Nat), sz := (76 : Nat) }
theorem WLR_r1 {β : Type} (fu : Nat) (G : Option St → Option β) (H : Ex → Option St → Option β) (s0 : Str) (v15 : Int) : lpR prog (g_WLR T0 R0 T1 R1 f1a f1b f1c f1d f1e T2 R2 f2a f2b T3 R3 f3a f3b f3c T4 R4 f4a T5 R5 f5a f5b) fu WLR_b1 G H (WLR_s1 s0 v15) =
  bif decide (v15 < (6 : Int)) then
    (R1 [AV.str s0, AV.int IntKind.i64 v15]).bind fun (t : T1) =>
      (R2 [AV.int IntKind.i64 v15]).bind fun (t_1 : T2) =>
        (R3 [AV.str s0, AV.s (SV.dat (TRow.ints IntKind.i64 (f2a t_1)) (f2b t_1) (1 : Nat))]).bind fun (t_2 : T3) =>
          bif !decide (f1d t = f3c t_2) then H Ex.ret (some (WLR_o1r false))
          else
            bif decide (f3c t_2 = (0 : Int)) then
              (R4 [AV.s (SV.dat (TRow.strs (f1a t)) (f1b t) (1 : Nat)), AV.s (SV.dat (TRow.strs (f3a t_2)) (f3b t_2) (1 : Nat))]).bind fun (t_3 : T4) =>
                bif !f4a t_3 || !decide (f1e t = (0 : Int)) || !decide (f1c t = s0) then H Ex.ret (some (WLR_o1r false))
                else
                  bif !decide (f3c t_2 = (0 : Int)) then
                    (R5 [AV.c (CV.mdat [SV.dat (TRow.strs (f1a t)) (f1b t) (1 : Nat)])]).bind fun (t_4 : T5) =>
                      (R2 [AV.int IntKind.i64 v15]).bind fun (t_5 : T2) =>
                        bif !decide ((↑(f5b t_4) : Int) = (↑(f2b t_5) : Int)) then H Ex.ret (some (WLR_o1r false))
                        else
                          bif decide ((0 : Int) ≤ (0 : Int) ∧ (0 : Int) < (↑(f1b t) : Int)) then
                            bif !decide ((f1a t).getD (0 : Nat) [] = []) || !decide (f1e t = (4 : Int)) then H Ex.ret (some (WLR_o1r false))
                            else G (some (WLR_s1 s0 (IntKind.i64.wrap (v15 + (1 : Int)))))
                          else none
                  else G (some (WLR_s1 s0 (IntKind.i64.wrap (v15 + (1 : Int)))))
            else
              bif !decide (f3c t_2 = (0 : Int)) then
                (R5 [AV.c (CV.mdat [SV.dat (TRow.strs (f1a t)) (f1b t) (1 : Nat)])]).bind fun (t_3 : T5) =>
                  (R2 [AV.int IntKind.i64 v15]).bind fun (t_4 : T2) =>
                    bif !decide ((↑(f5b t_3) : Int) = (↑(f2b t_4) : Int)) then H Ex.ret (some (WLR_o1r false))
                    else
                      bif decide ((0 : Int) ≤ (0 : Int) ∧ (0 : Int) < (↑(f1b t) : Int)) then
                        bif !decide ((f1a t).getD (0 : Nat) [] = []) || !decide (f1e t = (4 : Int)) then H Ex.ret (some (WLR_o1r false)) else G (some (WLR_s1 s0 (IntKind.i64.wrap (v15 + (1 : Int)))))
                      else none
              else G (some (WLR_s1 s0 (IntKind.i64.wrap (v15 + (1 : Int)))))
  else H (Ex.exit (0 : Nat)) (some WLR_o1e0) := by kernel_rfl
theorem WLR_c1r (fu : Nat) (b2 : Bool) : WLR_k1 T0 R0 T1 R1 f1a f1b f1c f1d f1e T2 R2 f2a f2b T3 R3 f3a f3b f3c T4 R4 f4a T5 R5 f5a f5b fu  Ex.ret (WLR_o1r b2) =
  some (AV.bool b2) := by kernel_rfl
theorem WLR_c1e0 (fu : Nat) : WLR_k1 T0 R0 T1 R1 f1a f1b f1c f1d f1e T2 R2 f2a f2b T3 R3 f3a f3b f3c T4 R4 f4a T5 R5 f5a f5b fu  (Ex.exit 0) (WLR_o1e0 ) =
  some (AV.bool true) := by kernel_rfl
end
end Go.Eng
/- wire's messages: their contracts; the laws WireWrites, WireCuts, WireReads. -/
namespace Go.Eng
open Go Go.Proofs
set_option linter.unusedVariables false
set_option linter.unusedSimpArgs false
theorem run_JoinW {l : List Int} {ps : List Str} {n m : Nat} (h1 : okLs l n = true) (h2 : okSs ps m = true) : rJoinW [.s (.dat (.ints .i64 l) n 1), .s (.dat (.strs ps) m 1)] = some (joinS l ps) := by
  have e : (okLs l n && okSs ps m) = true := by rw [h1, h2]; rfl
  simp only [rJoinW, sJoinW, e, cond_true]
theorem run_Split {s : Str} {l : List Int} {n : Nat} (h1 : okS40 s = true) (h2 : okLs l n = true) : rSplit [.str s, .s (.dat (.ints .i64 l) n 1)] = some (splitS s l) := by
  have e : (okS40 s && okLs l n) = true := by rw [h1, h2]; rfl
  simp only [rSplit, sSplit, e, cond_true]
theorem okSs_of {l : List Str} {n : Nat} (h1 : n = l.length) (h2 : l.length ≤ 1048576) (h3 : l.flatten.length ≤ 1099511627776) : okSs l n = true := by
  subst h1
  rw [okSs, Nat.beq_refl, Nat.ble_eq_true_of_le h2, Nat.ble_eq_true_of_le h3]; rfl
theorem splitS_len (s : Str) (l : List Int) (h : (splitS s l).2 = 0) : (splitS s l).1.length = l.length := by
  unfold splitS at *
  cases hn : anyNeg l
  · rw [hn] at h
    rw [cond_false] at h ⊢
    rw [cutS_eq _ _ _ hn] at h ⊢
    by_cases c : (s.length : Int) < sumI l
    · rw [decide_eq_true c, cond_true] at h; cases h
    · rw [decide_eq_false c, cond_false] at h ⊢
      by_cases c2 : sumI l < (s.length : Int)
      · rw [decide_eq_true c2, cond_true] at h; cases h
      · rw [decide_eq_false c2, cond_false, List.nil_append]
        clear h c c2 hn
        induction l generalizing s with
        | nil => rfl
        | cons n r ih => rw [cutP, List.length_cons, List.length_cons, ih]
  · rw [hn, cond_true] at h; cases h
theorem parseW_len (s : Str) (l : List Int) : (parseW l s).1.length = l.length := by
  unfold parseW
  by_cases h : (splitS s l).2 = 0
  · rw [decide_eq_true h, cond_true]; exact splitS_len s l h
  · rw [decide_eq_false h, cond_false, List.length_replicate]
theorem cutP_flat : ∀ (l : List Int) (s : Str), (cutP s l).flatten.length ≤ s.length := by
  intro l
  induction l with
  | nil => intro s; exact Nat.zero_le _
  | cons n r ih =>
    intro s
    have := ih (s.drop n.toNat)
    rw [List.length_drop] at this
    rw [cutP, List.flatten_cons, List.length_append, List.length_take]; omega
theorem splitS_flat (s : Str) (l : List Int) : (splitS s l).1.flatten.length ≤ s.length := by
  unfold splitS
  cases hn : anyNeg l
  · rw [cond_false, cutS_eq _ _ _ hn]
    cases decide ((s.length : Int) < sumI l)
    · rw [cond_false]
      cases decide (sumI l < (s.length : Int))
      · rw [cond_false, List.nil_append]; exact cutP_flat l s
      · exact Nat.zero_le _
    · exact Nat.zero_le _
  · exact Nat.zero_le _
theorem rep_flat (n : Nat) : (List.replicate n ([] : Str)).flatten = [] := by
  induction n with
  | zero => rfl
  | succ n ih => rw [List.replicate_succ, List.flatten_cons, ih]; rfl
theorem parseW_flat (s : Str) (l : List Int) : (parseW l s).1.flatten.length ≤ s.length := by
  unfold parseW
  by_cases h : (splitS s l).2 = 0
  · rw [decide_eq_true h, cond_true]; exact splitS_flat s l
  · rw [decide_eq_false h, cond_false, rep_flat]; exact Nat.zero_le _
noncomputable abbrev gI_WZa : Cg := g_WZa 
theorem gok_WZa : CfOk prog gI_WZa.c := ⟨gam_nil, fun _ _ h => by cases h⟩
theorem ok_WZ1 : CallOk prog n_wire_requests sWZ1 := by
  refine afunc_okE (g := gI_WZa) (fu := fun _ => 0) mixed gok_WZa h_wire_requests (by kernel_rfl) ?_
  intro args t ht
  unfold sWZ1 sRowOf at ht
  simp only at ht
  split at ht
  · cases ht; exact WZa_ev ..
  · cases ht
noncomputable abbrev gI_WBa : Cg := g_WBa (PUnit) rWZ1 (Str × Int) rJoinW (fun t => t.fst) (fun t => t.snd)
theorem gok_WBa : CfOk prog gI_WBa.c := ⟨gam_cons ok_WZ1 <| gam_cons ok_JoinW <| gam_nil, fun _ _ h => by cases h⟩
theorem run_WB1 {ss : List Str} (h : ss.length = 1) (h2 : ss.flatten.length ≤ 1099511627776) : rWB1 [.agg (.strs ss) 1] = some (joinS [32] ss) := by
  have e : (Nat.beq 1 1 && Nat.beq ss.length 1 && Nat.ble ss.flatten.length 1099511627776) = true := by rw [h, Nat.ble_eq_true_of_le h2]; rfl
  simp only [rWB1, runMsg, e, cond_true]
theorem ok_WB1 : CallOk prog n_wire_Request_Bytes sWB1 := by
  refine afunc_okE (g := gI_WBa) (fu := fun _ => 0) mixed gok_WBa h_wire_Request_Bytes (by kernel_rfl) ?_
  intro args t ht
  unfold sWB1 sMsg at ht
  simp only [runMsg] at ht
  split at ht
  · rename_i ss n
    obtain ⟨h1, h2⟩ := ctrueS ht
    subst h2
    simp only [Bool.and_eq_true] at h1
    have e1 := Nat.eq_of_beq_eq_true h1.1.1
    have e2 := Nat.eq_of_beq_eq_true h1.1.2
    have e3 := Nat.le_of_ble_eq_true h1.2
    subst e1
    match ss, e2 with
    | [a], _ =>
      refine (WBa_ev ..).trans ?_
      rw [show rWZ1 [] = some () from rfl, Option.bind_some]
      have r := run_JoinW (l := [32]) (ps := [a]) (n := 1) (m := 1) (by decide) (okSs_of rfl (by simp) e3)
      refine Eq.trans (congrArg (fun z => Option.bind z _) r) ?_
      rfl
  · cases ht
noncomputable abbrev gI_WMa : Cg := g_WMa 
theorem gok_WMa : CfOk prog gI_WMa.c := ⟨gam_nil, fun _ _ h => by cases h⟩
theorem run_WM1 {ss : List Str} (h : ss.length = 1) : rWM1 [.s (.dat (.strs ss) ss.length 1)] = some ss := by
  have e : (Nat.beq ss.length 1 && Nat.beq ss.length 1) = true := by rw [h]; rfl
  simp only [rWM1, runMk, e, cond_true]
theorem ok_WM1 : CallOk prog n_wire_ParseRequest_1 sWM1 := by
  refine afunc_okE (g := gI_WMa) (fu := fun _ => 0) mixed gok_WMa h_wire_ParseRequest_1 (by kernel_rfl) ?_
  intro args t ht
  unfold sWM1 sMk at ht
  simp only [runMk] at ht
  split at ht
  · rename_i ss n
    obtain ⟨h1, h2⟩ := ctrueS ht
    subst h2
    simp only [Bool.and_eq_true] at h1
    have e1 := Nat.eq_of_beq_eq_true h1.1
    have e2 := Nat.eq_of_beq_eq_true h1.2
    subst e2
    match ss, e1 with
    | [a], _ => exact WMa_ev ..
  · cases ht
noncomputable abbrev gI_WRa : Cg := g_WRa (List Str × Int) rSplit (fun t => t.fst) (fun t => t.fst.length) (fun t => t.snd) (List Str) rWM1 (fun t => t)
theorem gok_WRa : CfOk prog gI_WRa.c := ⟨gam_cons ok_SplitW <| gam_cons ok_WM1 <| gam_nil, fun _ _ h => by cases h⟩
theorem run_WR1 {s : Str} (h : okS40 s = true) : rWR1 [.str s, .s (.dat (.ints .i64 [32]) 1 1), .s (.clo n_wire_ParseRequest_1 [] [])] = some (parseW [32] s) := by
  simp only [rWR1, runRd, h]
  rfl
theorem ok_WR1 : CallOk prog n_wire_read_wire_Request sWR1 := by
  refine afunc_okE (g := gI_WRa) (fu := fun _ => 0) mixed gok_WRa h_wire_read_wire_Request (by kernel_rfl) ?_
  intro args t ht
  unfold sWR1 sRd at ht
  simp only [runRd] at ht
  split at ht
  · rename_i s a n g
    obtain ⟨h1, h2⟩ := ctrueS ht
    subst h2
    simp only [Bool.and_eq_true, decide_eq_true_eq] at h1
    obtain ⟨⟨⟨h1, rfl⟩, h3⟩, h4⟩ := h1
    have h3 := Nat.eq_of_beq_eq_true h3
    have h4 := Nat.eq_of_beq_eq_true h4
    subst h3 h4
    refine (WRa_ev ..).trans ?_
    rw [run_Split h1 (by decide), Option.bind_some]
    unfold parseW
    by_cases c : (splitS s [32]).2 = 0
    · rw [decide_eq_true c, Bool.not_true, cond_false, cond_true]
      have hl := splitS_len s [32] c
      rw [run_WM1 hl, Option.bind_some]; rfl
    · rw [decide_eq_false c, Bool.not_false, cond_true, cond_false]; rfl
  · cases ht
noncomputable abbrev gI_WPa : Cg := g_WPa (PUnit) rWZ1 (List Str × Int) rWR1 (fun t => t.fst) (fun t => t.snd) (List Str) rWM1 (fun t => t)
theorem gok_WPa : CfOk prog gI_WPa.c := ⟨gam_cons ok_WZ1 <| gam_cons ok_WR1 <| gam_cons ok_WM1 <| gam_nil, fun _ _ h => by cases h⟩
theorem run_WP1 {s : Str} (h : okS40 s = true) : rWP1 [.str s] = some (parseW [32] s) := by
  simp only [rWP1, runPM, h, cond_true]
theorem ok_WP1 : CallOk prog n_wire_ParseRequest sWP1 := by
  refine afunc_okE (g := gI_WPa) (fu := fun _ => 0) mixed gok_WPa h_wire_ParseRequest (by kernel_rfl) ?_
  intro args t ht
  unfold sWP1 sPM at ht
  simp only [runPM] at ht
  split at ht
  · rename_i s
    obtain ⟨h1, h2⟩ := ctrueS ht
    subst h2
    refine (WPa_ev ..).trans ?_
    rw [show rWZ1 [] = some () from rfl, Option.bind_some, run_WR1 h1, Option.bind_some]; rfl
  · cases ht
noncomputable abbrev gI_WZb : Cg := g_WZb 
theorem gok_WZb : CfOk prog gI_WZb.c := ⟨gam_nil, fun _ _ h => by cases h⟩
theorem ok_WZ2 : CallOk prog n_wire_responses sWZ2 := by
  refine afunc_okE (g := gI_WZb) (fu := fun _ => 0) mixed gok_WZb h_wire_responses (by kernel_rfl) ?_
  intro args t ht
  unfold sWZ2 sRowOf at ht
  simp only at ht
  split at ht
  · cases ht; exact WZb_ev ..
  · cases ht
noncomputable abbrev gI_WBb : Cg := g_WBb (PUnit) rWZ2 (Str × Int) rJoinW (fun t => t.fst) (fun t => t.snd)
theorem gok_WBb : CfOk prog gI_WBb.c := ⟨gam_cons ok_WZ2 <| gam_cons ok_JoinW <| gam_nil, fun _ _ h => by cases h⟩
theorem run_WB2 {ss : List Str} (h : ss.length = 2) (h2 : ss.flatten.length ≤ 1099511627776) : rWB2 [.agg (.strs ss) 2] = some (joinS [32, 32] ss) := by
  have e : (Nat.beq 2 2 && Nat.beq ss.length 2 && Nat.ble ss.flatten.length 1099511627776) = true := by rw [h, Nat.ble_eq_true_of_le h2]; rfl
  simp only [rWB2, runMsg, e, cond_true]
theorem ok_WB2 : CallOk prog n_wire_Response_Bytes sWB2 := by
  refine afunc_okE (g := gI_WBb) (fu := fun _ => 0) mixed gok_WBb h_wire_Response_Bytes (by kernel_rfl) ?_
  intro args t ht
  unfold sWB2 sMsg at ht
  simp only [runMsg] at ht
  split at ht
  · rename_i ss n
    obtain ⟨h1, h2⟩ := ctrueS ht
    subst h2
    simp only [Bool.and_eq_true] at h1
    have e1 := Nat.eq_of_beq_eq_true h1.1.1
    have e2 := Nat.eq_of_beq_eq_true h1.1.2
    have e3 := Nat.le_of_ble_eq_true h1.2
    subst e1
    match ss, e2 with
    | [a, b], _ =>
      refine (WBb_ev ..).trans ?_
      rw [show rWZ2 [] = some () from rfl, Option.bind_some]
      have r := run_JoinW (l := [32, 32]) (ps := [a, b]) (n := 2) (m := 2) (by decide) (okSs_of rfl (by simp) e3)
      refine Eq.trans (congrArg (fun z => Option.bind z _) r) ?_
      rfl
  · cases ht
noncomputable abbrev gI_WMb : Cg := g_WMb 
theorem gok_WMb : CfOk prog gI_WMb.c := ⟨gam_nil, fun _ _ h => by cases h⟩
theorem run_WM2 {ss : List Str} (h : ss.length = 2) : rWM2 [.s (.dat (.strs ss) ss.length 1)] = some ss := by
  have e : (Nat.beq ss.length 2 && Nat.beq ss.length 2) = true := by rw [h]; rfl
  simp only [rWM2, runMk, e, cond_true]
theorem ok_WM2 : CallOk prog n_wire_ParseResponse_1 sWM2 := by
  refine afunc_okE (g := gI_WMb) (fu := fun _ => 0) mixed gok_WMb h_wire_ParseResponse_1 (by kernel_rfl) ?_
  intro args t ht
  unfold sWM2 sMk at ht
  simp only [runMk] at ht
  split at ht
  · rename_i ss n
    obtain ⟨h1, h2⟩ := ctrueS ht
    subst h2
    simp only [Bool.and_eq_true] at h1
    have e1 := Nat.eq_of_beq_eq_true h1.1
    have e2 := Nat.eq_of_beq_eq_true h1.2
    subst e2
    match ss, e1 with
    | [a, b], _ => exact WMb_ev ..
  · cases ht
noncomputable abbrev gI_WRb : Cg := g_WRb (List Str × Int) rSplit (fun t => t.fst) (fun t => t.fst.length) (fun t => t.snd) (List Str) rWM2 (fun t => t)
theorem gok_WRb : CfOk prog gI_WRb.c := ⟨gam_cons ok_SplitW <| gam_cons ok_WM2 <| gam_nil, fun _ _ h => by cases h⟩
theorem run_WR2 {s : Str} (h : okS40 s = true) : rWR2 [.str s, .s (.dat (.ints .i64 [32, 32]) 2 1), .s (.clo n_wire_ParseResponse_1 [] [])] = some (parseW [32, 32] s) := by
  simp only [rWR2, runRd, h]
  rfl
theorem ok_WR2 : CallOk prog n_wire_read_wire_Response sWR2 := by
  refine afunc_okE (g := gI_WRb) (fu := fun _ => 0) mixed gok_WRb h_wire_read_wire_Response (by kernel_rfl) ?_
  intro args t ht
  unfold sWR2 sRd at ht
  simp only [runRd] at ht
  split at ht
  · rename_i s a n g
    obtain ⟨h1, h2⟩ := ctrueS ht
    subst h2
    simp only [Bool.and_eq_true, decide_eq_true_eq] at h1
    obtain ⟨⟨⟨h1, rfl⟩, h3⟩, h4⟩ := h1
    have h3 := Nat.eq_of_beq_eq_true h3
    have h4 := Nat.eq_of_beq_eq_true h4
    subst h3 h4
    refine (WRb_ev ..).trans ?_
    rw [run_Split h1 (by decide), Option.bind_some]
    unfold parseW
    by_cases c : (splitS s [32, 32]).2 = 0
    · rw [decide_eq_true c, Bool.not_true, cond_false, cond_true]
      have hl := splitS_len s [32, 32] c
      rw [run_WM2 hl, Option.bind_some]; rfl
    · rw [decide_eq_false c, Bool.not_false, cond_true, cond_false]; rfl
  · cases ht
noncomputable abbrev gI_WPb : Cg := g_WPb (PUnit) rWZ2 (List Str × Int) rWR2 (fun t => t.fst) (fun t => t.snd) (List Str) rWM2 (fun t => t)
theorem gok_WPb : CfOk prog gI_WPb.c := ⟨gam_cons ok_WZ2 <| gam_cons ok_WR2 <| gam_cons ok_WM2 <| gam_nil, fun _ _ h => by cases h⟩
theorem run_WP2 {s : Str} (h : okS40 s = true) : rWP2 [.str s] = some (parseW [32, 32] s) := by
  simp only [rWP2, runPM, h, cond_true]
theorem ok_WP2 : CallOk prog n_wire_ParseResponse sWP2 := by
  refine afunc_okE (g := gI_WPb) (fu := fun _ => 0) mixed gok_WPb h_wire_ParseResponse (by kernel_rfl) ?_
  intro args t ht
  unfold sWP2 sPM at ht
  simp only [runPM] at ht
  split at ht
  · rename_i s
    obtain ⟨h1, h2⟩ := ctrueS ht
    subst h2
    refine (WPb_ev ..).trans ?_
    rw [show rWZ2 [] = some () from rfl, Option.bind_some, run_WR2 h1, Option.bind_some]; rfl
  · cases ht
noncomputable abbrev gI_WZc : Cg := g_WZc 
theorem gok_WZc : CfOk prog gI_WZc.c := ⟨gam_nil, fun _ _ h => by cases h⟩
theorem ok_WZ3 : CallOk prog n_wire_records sWZ3 := by
  refine afunc_okE (g := gI_WZc) (fu := fun _ => 0) mixed gok_WZc h_wire_records (by kernel_rfl) ?_
  intro args t ht
  unfold sWZ3 sRowOf at ht
  simp only at ht
  split at ht
  · cases ht; exact WZc_ev ..
  · cases ht
noncomputable abbrev gI_WBc : Cg := g_WBc (PUnit) rWZ3 (Str × Int) rJoinW (fun t => t.fst) (fun t => t.snd)
theorem gok_WBc : CfOk prog gI_WBc.c := ⟨gam_cons ok_WZ3 <| gam_cons ok_JoinW <| gam_nil, fun _ _ h => by cases h⟩
theorem run_WB3 {ss : List Str} (h : ss.length = 3) (h2 : ss.flatten.length ≤ 1099511627776) : rWB3 [.agg (.strs ss) 3] = some (joinS [32, 64, 96] ss) := by
  have e : (Nat.beq 3 3 && Nat.beq ss.length 3 && Nat.ble ss.flatten.length 1099511627776) = true := by rw [h, Nat.ble_eq_true_of_le h2]; rfl
  simp only [rWB3, runMsg, e, cond_true]
theorem ok_WB3 : CallOk prog n_wire_Record_Bytes sWB3 := by
  refine afunc_okE (g := gI_WBc) (fu := fun _ => 0) mixed gok_WBc h_wire_Record_Bytes (by kernel_rfl) ?_
  intro args t ht
  unfold sWB3 sMsg at ht
  simp only [runMsg] at ht
  split at ht
  · rename_i ss n
    obtain ⟨h1, h2⟩ := ctrueS ht
    subst h2
    simp only [Bool.and_eq_true] at h1
    have e1 := Nat.eq_of_beq_eq_true h1.1.1
    have e2 := Nat.eq_of_beq_eq_true h1.1.2
    have e3 := Nat.le_of_ble_eq_true h1.2
    subst e1
    match ss, e2 with
    | [a, b, c], _ =>
      refine (WBc_ev ..).trans ?_
      rw [show rWZ3 [] = some () from rfl, Option.bind_some]
      have r := run_JoinW (l := [32, 64, 96]) (ps := [a, b, c]) (n := 3) (m := 3) (by decide) (okSs_of rfl (by simp) e3)
      refine Eq.trans (congrArg (fun z => Option.bind z _) r) ?_
      rfl
  · cases ht
noncomputable abbrev gI_WMc : Cg := g_WMc 
theorem gok_WMc : CfOk prog gI_WMc.c := ⟨gam_nil, fun _ _ h => by cases h⟩
theorem run_WM3 {ss : List Str} (h : ss.length = 3) : rWM3 [.s (.dat (.strs ss) ss.length 1)] = some ss := by
  have e : (Nat.beq ss.length 3 && Nat.beq ss.length 3) = true := by rw [h]; rfl
  simp only [rWM3, runMk, e, cond_true]
theorem ok_WM3 : CallOk prog n_wire_ParseRecord_1 sWM3 := by
  refine afunc_okE (g := gI_WMc) (fu := fun _ => 0) mixed gok_WMc h_wire_ParseRecord_1 (by kernel_rfl) ?_
  intro args t ht
  unfold sWM3 sMk at ht
  simp only [runMk] at ht
  split at ht
  · rename_i ss n
    obtain ⟨h1, h2⟩ := ctrueS ht
    subst h2
    simp only [Bool.and_eq_true] at h1
    have e1 := Nat.eq_of_beq_eq_true h1.1
    have e2 := Nat.eq_of_beq_eq_true h1.2
    subst e2
    match ss, e1 with
    | [a, b, c], _ => exact WMc_ev ..
  · cases ht
noncomputable abbrev gI_WRc : Cg := g_WRc (List Str × Int) rSplit (fun t => t.fst) (fun t => t.fst.length) (fun t => t.snd) (List Str) rWM3 (fun t => t)
theorem gok_WRc : CfOk prog gI_WRc.c := ⟨gam_cons ok_SplitW <| gam_cons ok_WM3 <| gam_nil, fun _ _ h => by cases h⟩
theorem run_WR3 {s : Str} (h : okS40 s = true) : rWR3 [.str s, .s (.dat (.ints .i64 [32, 64, 96]) 3 1), .s (.clo n_wire_ParseRecord_1 [] [])] = some (parseW [32, 64, 96] s) := by
  simp only [rWR3, runRd, h]
  rfl
theorem ok_WR3 : CallOk prog n_wire_read_wire_Record sWR3 := by
  refine afunc_okE (g := gI_WRc) (fu := fun _ => 0) mixed gok_WRc h_wire_read_wire_Record (by kernel_rfl) ?_
  intro args t ht
  unfold sWR3 sRd at ht
  simp only [runRd] at ht
  split at ht
  · rename_i s a n g
    obtain ⟨h1, h2⟩ := ctrueS ht
    subst h2
    simp only [Bool.and_eq_true, decide_eq_true_eq] at h1
    obtain ⟨⟨⟨h1, rfl⟩, h3⟩, h4⟩ := h1
    have h3 := Nat.eq_of_beq_eq_true h3
    have h4 := Nat.eq_of_beq_eq_true h4
    subst h3 h4
    refine (WRc_ev ..).trans ?_
    rw [run_Split h1 (by decide), Option.bind_some]
    unfold parseW
    by_cases c : (splitS s [32, 64, 96]).2 = 0
    · rw [decide_eq_true c, Bool.not_true, cond_false, cond_true]
      have hl := splitS_len s [32, 64, 96] c
      rw [run_WM3 hl, Option.bind_some]; rfl
    · rw [decide_eq_false c, Bool.not_false, cond_true, cond_false]; rfl
  · cases ht
noncomputable abbrev gI_WPc : Cg := g_WPc (PUnit) rWZ3 (List Str × Int) rWR3 (fun t => t.fst) (fun t => t.snd) (List Str) rWM3 (fun t => t)
theorem gok_WPc : CfOk prog gI_WPc.c := ⟨gam_cons ok_WZ3 <| gam_cons ok_WR3 <| gam_cons ok_WM3 <| gam_nil, fun _ _ h => by cases h⟩
theorem run_WP3 {s : Str} (h : okS40 s = true) : rWP3 [.str s] = some (parseW [32, 64, 96] s) := by
  simp only [rWP3, runPM, h, cond_true]
theorem ok_WP3 : CallOk prog n_wire_ParseRecord sWP3 := by
  refine afunc_okE (g := gI_WPc) (fu := fun _ => 0) mixed gok_WPc h_wire_ParseRecord (by kernel_rfl) ?_
  intro args t ht
  unfold sWP3 sPM at ht
  simp only [runPM] at ht
  split at ht
  · rename_i s
    obtain ⟨h1, h2⟩ := ctrueS ht
    subst h2
    refine (WPc_ev ..).trans ?_
    rw [show rWZ3 [] = some () from rfl, Option.bind_some, run_WR3 h1, Option.bind_some]; rfl
  · cases ht
noncomputable abbrev gI_WZd : Cg := g_WZd 
theorem gok_WZd : CfOk prog gI_WZd.c := ⟨gam_nil, fun _ _ h => by cases h⟩
theorem ok_WZ4 : CallOk prog n_wire_firsts sWZ4 := by
  refine afunc_okE (g := gI_WZd) (fu := fun _ => 0) mixed gok_WZd h_wire_firsts (by kernel_rfl) ?_
  intro args t ht
  unfold sWZ4 sRowOf at ht
  simp only at ht
  split at ht
  · cases ht; exact WZd_ev ..
  · cases ht
noncomputable abbrev gI_WBd : Cg := g_WBd (PUnit) rWZ4 (Str × Int) rJoinW (fun t => t.fst) (fun t => t.snd)
theorem gok_WBd : CfOk prog gI_WBd.c := ⟨gam_cons ok_WZ4 <| gam_cons ok_JoinW <| gam_nil, fun _ _ h => by cases h⟩
theorem run_WB4 {ss : List Str} (h : ss.length = 3) (h2 : ss.flatten.length ≤ 1099511627776) : rWB4 [.agg (.strs ss) 3] = some (joinS [32, 32, 32] ss) := by
  have e : (Nat.beq 3 3 && Nat.beq ss.length 3 && Nat.ble ss.flatten.length 1099511627776) = true := by rw [h, Nat.ble_eq_true_of_le h2]; rfl
  simp only [rWB4, runMsg, e, cond_true]
theorem ok_WB4 : CallOk prog n_wire_KE1_Bytes sWB4 := by
  refine afunc_okE (g := gI_WBd) (fu := fun _ => 0) mixed gok_WBd h_wire_KE1_Bytes (by kernel_rfl) ?_
  intro args t ht
  unfold sWB4 sMsg at ht
  simp only [runMsg] at ht
  split at ht
  · rename_i ss n
    obtain ⟨h1, h2⟩ := ctrueS ht
    subst h2
    simp only [Bool.and_eq_true] at h1
    have e1 := Nat.eq_of_beq_eq_true h1.1.1
    have e2 := Nat.eq_of_beq_eq_true h1.1.2
    have e3 := Nat.le_of_ble_eq_true h1.2
    subst e1
    match ss, e2 with
    | [a, b, c], _ =>
      refine (WBd_ev ..).trans ?_
      rw [show rWZ4 [] = some () from rfl, Option.bind_some]
      have r := run_JoinW (l := [32, 32, 32]) (ps := [a, b, c]) (n := 3) (m := 3) (by decide) (okSs_of rfl (by simp) e3)
      refine Eq.trans (congrArg (fun z => Option.bind z _) r) ?_
      rfl
  · cases ht
noncomputable abbrev gI_WMd : Cg := g_WMd 
theorem gok_WMd : CfOk prog gI_WMd.c := ⟨gam_nil, fun _ _ h => by cases h⟩
theorem run_WM4 {ss : List Str} (h : ss.length = 3) : rWM4 [.s (.dat (.strs ss) ss.length 1)] = some ss := by
  have e : (Nat.beq ss.length 3 && Nat.beq ss.length 3) = true := by rw [h]; rfl
  simp only [rWM4, runMk, e, cond_true]
theorem ok_WM4 : CallOk prog n_wire_ParseKE1_1 sWM4 := by
  refine afunc_okE (g := gI_WMd) (fu := fun _ => 0) mixed gok_WMd h_wire_ParseKE1_1 (by kernel_rfl) ?_
  intro args t ht
  unfold sWM4 sMk at ht
  simp only [runMk] at ht
  split at ht
  · rename_i ss n
    obtain ⟨h1, h2⟩ := ctrueS ht
    subst h2
    simp only [Bool.and_eq_true] at h1
    have e1 := Nat.eq_of_beq_eq_true h1.1
    have e2 := Nat.eq_of_beq_eq_true h1.2
    subst e2
    match ss, e1 with
    | [a, b, c], _ => exact WMd_ev ..
  · cases ht
noncomputable abbrev gI_WRd : Cg := g_WRd (List Str × Int) rSplit (fun t => t.fst) (fun t => t.fst.length) (fun t => t.snd) (List Str) rWM4 (fun t => t)
theorem gok_WRd : CfOk prog gI_WRd.c := ⟨gam_cons ok_SplitW <| gam_cons ok_WM4 <| gam_nil, fun _ _ h => by cases h⟩
theorem run_WR4 {s : Str} (h : okS40 s = true) : rWR4 [.str s, .s (.dat (.ints .i64 [32, 32, 32]) 3 1), .s (.clo n_wire_ParseKE1_1 [] [])] = some (parseW [32, 32, 32] s) := by
  simp only [rWR4, runRd, h]
  rfl
theorem ok_WR4 : CallOk prog n_wire_read_wire_KE1 sWR4 := by
  refine afunc_okE (g := gI_WRd) (fu := fun _ => 0) mixed gok_WRd h_wire_read_wire_KE1 (by kernel_rfl) ?_
  intro args t ht
  unfold sWR4 sRd at ht
  simp only [runRd] at ht
  split at ht
  · rename_i s a n g
    obtain ⟨h1, h2⟩ := ctrueS ht
    subst h2
    simp only [Bool.and_eq_true, decide_eq_true_eq] at h1
    obtain ⟨⟨⟨h1, rfl⟩, h3⟩, h4⟩ := h1
    have h3 := Nat.eq_of_beq_eq_true h3
    have h4 := Nat.eq_of_beq_eq_true h4
    subst h3 h4
    refine (WRd_ev ..).trans ?_
    rw [run_Split h1 (by decide), Option.bind_some]
    unfold parseW
    by_cases c : (splitS s [32, 32, 32]).2 = 0
    · rw [decide_eq_true c, Bool.not_true, cond_false, cond_true]
      have hl := splitS_len s [32, 32, 32] c
      rw [run_WM4 hl, Option.bind_some]; rfl
    · rw [decide_eq_false c, Bool.not_false, cond_true, cond_false]; rfl
  · cases ht
noncomputable abbrev gI_WPd : Cg := g_WPd (PUnit) rWZ4 (List Str × Int) rWR4 (fun t => t.fst) (fun t => t.snd) (List Str) rWM4 (fun t => t)
theorem gok_WPd : CfOk prog gI_WPd.c := ⟨gam_cons ok_WZ4 <| gam_cons ok_WR4 <| gam_cons ok_WM4 <| gam_nil, fun _ _ h => by cases h⟩
theorem run_WP4 {s : Str} (h : okS40 s = true) : rWP4 [.str s] = some (parseW [32, 32, 32] s) := by
  simp only [rWP4, runPM, h, cond_true]
theorem ok_WP4 : CallOk prog n_wire_ParseKE1 sWP4 := by
  refine afunc_okE (g := gI_WPd) (fu := fun _ => 0) mixed gok_WPd h_wire_ParseKE1 (by kernel_rfl) ?_
  intro args t ht
  unfold sWP4 sPM at ht
  simp only [runPM] at ht
  split at ht
  · rename_i s
    obtain ⟨h1, h2⟩ := ctrueS ht
    subst h2
    refine (WPd_ev ..).trans ?_
    rw [show rWZ4 [] = some () from rfl, Option.bind_some, run_WR4 h1, Option.bind_some]; rfl
  · cases ht
noncomputable abbrev gI_WZe : Cg := g_WZe 
theorem gok_WZe : CfOk prog gI_WZe.c := ⟨gam_nil, fun _ _ h => by cases h⟩
theorem ok_WZ5 : CallOk prog n_wire_seconds sWZ5 := by
  refine afunc_okE (g := gI_WZe) (fu := fun _ => 0) mixed gok_WZe h_wire_seconds (by kernel_rfl) ?_
  intro args t ht
  unfold sWZ5 sRowOf at ht
  simp only at ht
  split at ht
  · cases ht; exact WZe_ev ..
  · cases ht
noncomputable abbrev gI_WBe : Cg := g_WBe (PUnit) rWZ5 (Str × Int) rJoinW (fun t => t.fst) (fun t => t.snd)
theorem gok_WBe : CfOk prog gI_WBe.c := ⟨gam_cons ok_WZ5 <| gam_cons ok_JoinW <| gam_nil, fun _ _ h => by cases h⟩
theorem run_WB5 {ss : List Str} (h : ss.length = 6) (h2 : ss.flatten.length ≤ 1099511627776) : rWB5 [.agg (.strs ss) 6] = some (joinS [32, 32, 128, 32, 32, 64] ss) := by
  have e : (Nat.beq 6 6 && Nat.beq ss.length 6 && Nat.ble ss.flatten.length 1099511627776) = true := by rw [h, Nat.ble_eq_true_of_le h2]; rfl
  simp only [rWB5, runMsg, e, cond_true]
theorem ok_WB5 : CallOk prog n_wire_KE2_Bytes sWB5 := by
  refine afunc_okE (g := gI_WBe) (fu := fun _ => 0) mixed gok_WBe h_wire_KE2_Bytes (by kernel_rfl) ?_
  intro args t ht
  unfold sWB5 sMsg at ht
  simp only [runMsg] at ht
  split at ht
  · rename_i ss n
    obtain ⟨h1, h2⟩ := ctrueS ht
    subst h2
    simp only [Bool.and_eq_true] at h1
    have e1 := Nat.eq_of_beq_eq_true h1.1.1
    have e2 := Nat.eq_of_beq_eq_true h1.1.2
    have e3 := Nat.le_of_ble_eq_true h1.2
    subst e1
    match ss, e2 with
    | [a, b, c, d, e, f], _ =>
      refine (WBe_ev ..).trans ?_
      rw [show rWZ5 [] = some () from rfl, Option.bind_some]
      have r := run_JoinW (l := [32, 32, 128, 32, 32, 64]) (ps := [a, b, c, d, e, f]) (n := 6) (m := 6) (by decide) (okSs_of rfl (by simp) e3)
      refine Eq.trans (congrArg (fun z => Option.bind z _) r) ?_
      rfl
  · cases ht
noncomputable abbrev gI_WMe : Cg := g_WMe 
theorem gok_WMe : CfOk prog gI_WMe.c := ⟨gam_nil, fun _ _ h => by cases h⟩
theorem run_WM5 {ss : List Str} (h : ss.length = 6) : rWM5 [.s (.dat (.strs ss) ss.length 1)] = some ss := by
  have e : (Nat.beq ss.length 6 && Nat.beq ss.length 6) = true := by rw [h]; rfl
  simp only [rWM5, runMk, e, cond_true]
theorem ok_WM5 : CallOk prog n_wire_ParseKE2_1 sWM5 := by
  refine afunc_okE (g := gI_WMe) (fu := fun _ => 0) mixed gok_WMe h_wire_ParseKE2_1 (by kernel_rfl) ?_
  intro args t ht
  unfold sWM5 sMk at ht
  simp only [runMk] at ht
  split at ht
  · rename_i ss n
    obtain ⟨h1, h2⟩ := ctrueS ht
    subst h2
    simp only [Bool.and_eq_true] at h1
    have e1 := Nat.eq_of_beq_eq_true h1.1
    have e2 := Nat.eq_of_beq_eq_true h1.2
    subst e2
    match ss, e1 with
    | [a, b, c, d, e, f], _ => exact WMe_ev ..
  · cases ht
noncomputable abbrev gI_WRe : Cg := g_WRe (List Str × Int) rSplit (fun t => t.fst) (fun t => t.fst.length) (fun t => t.snd) (List Str) rWM5 (fun t => t)
theorem gok_WRe : CfOk prog gI_WRe.c := ⟨gam_cons ok_SplitW <| gam_cons ok_WM5 <| gam_nil, fun _ _ h => by cases h⟩
theorem run_WR5 {s : Str} (h : okS40 s = true) : rWR5 [.str s, .s (.dat (.ints .i64 [32, 32, 128, 32, 32, 64]) 6 1), .s (.clo n_wire_ParseKE2_1 [] [])] = some (parseW [32, 32, 128, 32, 32, 64] s) := by
  simp only [rWR5, runRd, h]
  rfl
theorem ok_WR5 : CallOk prog n_wire_read_wire_KE2 sWR5 := by
  refine afunc_okE (g := gI_WRe) (fu := fun _ => 0) mixed gok_WRe h_wire_read_wire_KE2 (by kernel_rfl) ?_
  intro args t ht
  unfold sWR5 sRd at ht
  simp only [runRd] at ht
  split at ht
  · rename_i s a n g
    obtain ⟨h1, h2⟩ := ctrueS ht
    subst h2
    simp only [Bool.and_eq_true, decide_eq_true_eq] at h1
    obtain ⟨⟨⟨h1, rfl⟩, h3⟩, h4⟩ := h1
    have h3 := Nat.eq_of_beq_eq_true h3
    have h4 := Nat.eq_of_beq_eq_true h4
    subst h3 h4
    refine (WRe_ev ..).trans ?_
    rw [run_Split h1 (by decide), Option.bind_some]
    unfold parseW
    by_cases c : (splitS s [32, 32, 128, 32, 32, 64]).2 = 0
    · rw [decide_eq_true c, Bool.not_true, cond_false, cond_true]
      have hl := splitS_len s [32, 32, 128, 32, 32, 64] c
      rw [run_WM5 hl, Option.bind_some]; rfl
    · rw [decide_eq_false c, Bool.not_false, cond_true, cond_false]; rfl
  · cases ht
noncomputable abbrev gI_WPe : Cg := g_WPe (PUnit) rWZ5 (List Str × Int) rWR5 (fun t => t.fst) (fun t => t.snd) (List Str) rWM5 (fun t => t)
theorem gok_WPe : CfOk prog gI_WPe.c := ⟨gam_cons ok_WZ5 <| gam_cons ok_WR5 <| gam_cons ok_WM5 <| gam_nil, fun _ _ h => by cases h⟩
theorem run_WP5 {s : Str} (h : okS40 s = true) : rWP5 [.str s] = some (parseW [32, 32, 128, 32, 32, 64] s) := by
  simp only [rWP5, runPM, h, cond_true]
theorem ok_WP5 : CallOk prog n_wire_ParseKE2 sWP5 := by
  refine afunc_okE (g := gI_WPe) (fu := fun _ => 0) mixed gok_WPe h_wire_ParseKE2 (by kernel_rfl) ?_
  intro args t ht
  unfold sWP5 sPM at ht
  simp only [runPM] at ht
  split at ht
  · rename_i s
    obtain ⟨h1, h2⟩ := ctrueS ht
    subst h2
    refine (WPe_ev ..).trans ?_
    rw [show rWZ5 [] = some () from rfl, Option.bind_some, run_WR5 h1, Option.bind_some]; rfl
  · cases ht
noncomputable abbrev gI_WZf : Cg := g_WZf 
theorem gok_WZf : CfOk prog gI_WZf.c := ⟨gam_nil, fun _ _ h => by cases h⟩
theorem ok_WZ6 : CallOk prog n_wire_thirds sWZ6 := by
  refine afunc_okE (g := gI_WZf) (fu := fun _ => 0) mixed gok_WZf h_wire_thirds (by kernel_rfl) ?_
  intro args t ht
  unfold sWZ6 sRowOf at ht
  simp only at ht
  split at ht
  · cases ht; exact WZf_ev ..
  · cases ht
noncomputable abbrev gI_WBf : Cg := g_WBf (PUnit) rWZ6 (Str × Int) rJoinW (fun t => t.fst) (fun t => t.snd)
theorem gok_WBf : CfOk prog gI_WBf.c := ⟨gam_cons ok_WZ6 <| gam_cons ok_JoinW <| gam_nil, fun _ _ h => by cases h⟩
theorem run_WB6 {ss : List Str} (h : ss.length = 1) (h2 : ss.flatten.length ≤ 1099511627776) : rWB6 [.agg (.strs ss) 1] = some (joinS [64] ss) := by
  have e : (Nat.beq 1 1 && Nat.beq ss.length 1 && Nat.ble ss.flatten.length 1099511627776) = true := by rw [h, Nat.ble_eq_true_of_le h2]; rfl
  simp only [rWB6, runMsg, e, cond_true]
theorem ok_WB6 : CallOk prog n_wire_KE3_Bytes sWB6 := by
  refine afunc_okE (g := gI_WBf) (fu := fun _ => 0) mixed gok_WBf h_wire_KE3_Bytes (by kernel_rfl) ?_
  intro args t ht
  unfold sWB6 sMsg at ht
  simp only [runMsg] at ht
  split at ht
  · rename_i ss n
    obtain ⟨h1, h2⟩ := ctrueS ht
    subst h2
    simp only [Bool.and_eq_true] at h1
    have e1 := Nat.eq_of_beq_eq_true h1.1.1
    have e2 := Nat.eq_of_beq_eq_true h1.1.2
    have e3 := Nat.le_of_ble_eq_true h1.2
    subst e1
    match ss, e2 with
    | [a], _ =>
      refine (WBf_ev ..).trans ?_
      rw [show rWZ6 [] = some () from rfl, Option.bind_some]
      have r := run_JoinW (l := [64]) (ps := [a]) (n := 1) (m := 1) (by decide) (okSs_of rfl (by simp) e3)
      refine Eq.trans (congrArg (fun z => Option.bind z _) r) ?_
      rfl
  · cases ht
noncomputable abbrev gI_WMf : Cg := g_WMf 
theorem gok_WMf : CfOk prog gI_WMf.c := ⟨gam_nil, fun _ _ h => by cases h⟩
theorem run_WM6 {ss : List Str} (h : ss.length = 1) : rWM6 [.s (.dat (.strs ss) ss.length 1)] = some ss := by
  have e : (Nat.beq ss.length 1 && Nat.beq ss.length 1) = true := by rw [h]; rfl
  simp only [rWM6, runMk, e, cond_true]
theorem ok_WM6 : CallOk prog n_wire_ParseKE3_1 sWM6 := by
  refine afunc_okE (g := gI_WMf) (fu := fun _ => 0) mixed gok_WMf h_wire_ParseKE3_1 (by kernel_rfl) ?_
  intro args t ht
  unfold sWM6 sMk at ht
  simp only [runMk] at ht
  split at ht
  · rename_i ss n
    obtain ⟨h1, h2⟩ := ctrueS ht
    subst h2
    simp only [Bool.and_eq_true] at h1
    have e1 := Nat.eq_of_beq_eq_true h1.1
    have e2 := Nat.eq_of_beq_eq_true h1.2
    subst e2
    match ss, e1 with
    | [a], _ => exact WMf_ev ..
  · cases ht
noncomputable abbrev gI_WRf : Cg := g_WRf (List Str × Int) rSplit (fun t => t.fst) (fun t => t.fst.length) (fun t => t.snd) (List Str) rWM6 (fun t => t)
theorem gok_WRf : CfOk prog gI_WRf.c := ⟨gam_cons ok_SplitW <| gam_cons ok_WM6 <| gam_nil, fun _ _ h => by cases h⟩
theorem run_WR6 {s : Str} (h : okS40 s = true) : rWR6 [.str s, .s (.dat (.ints .i64 [64]) 1 1), .s (.clo n_wire_ParseKE3_1 [] [])] = some (parseW [64] s) := by
  simp only [rWR6, runRd, h]
  rfl
theorem ok_WR6 : CallOk prog n_wire_read_wire_KE3 sWR6 := by
  refine afunc_okE (g := gI_WRf) (fu := fun _ => 0) mixed gok_WRf h_wire_read_wire_KE3 (by kernel_rfl) ?_
  intro args t ht
  unfold sWR6 sRd at ht
  simp only [runRd] at ht
  split at ht
  · rename_i s a n g
    obtain ⟨h1, h2⟩ := ctrueS ht
    subst h2
    simp only [Bool.and_eq_true, decide_eq_true_eq] at h1
    obtain ⟨⟨⟨h1, rfl⟩, h3⟩, h4⟩ := h1
    have h3 := Nat.eq_of_beq_eq_true h3
    have h4 := Nat.eq_of_beq_eq_true h4
    subst h3 h4
    refine (WRf_ev ..).trans ?_
    rw [run_Split h1 (by decide), Option.bind_some]
    unfold parseW
    by_cases c : (splitS s [64]).2 = 0
    · rw [decide_eq_true c, Bool.not_true, cond_false, cond_true]
      have hl := splitS_len s [64] c
      rw [run_WM6 hl, Option.bind_some]; rfl
    · rw [decide_eq_false c, Bool.not_false, cond_true, cond_false]; rfl
  · cases ht
noncomputable abbrev gI_WPf : Cg := g_WPf (PUnit) rWZ6 (List Str × Int) rWR6 (fun t => t.fst) (fun t => t.snd) (List Str) rWM6 (fun t => t)
theorem gok_WPf : CfOk prog gI_WPf.c := ⟨gam_cons ok_WZ6 <| gam_cons ok_WR6 <| gam_cons ok_WM6 <| gam_nil, fun _ _ h => by cases h⟩
theorem run_WP6 {s : Str} (h : okS40 s = true) : rWP6 [.str s] = some (parseW [64] s) := by
  simp only [rWP6, runPM, h, cond_true]
theorem ok_WP6 : CallOk prog n_wire_ParseKE3 sWP6 := by
  refine afunc_okE (g := gI_WPf) (fu := fun _ => 0) mixed gok_WPf h_wire_ParseKE3 (by kernel_rfl) ?_
  intro args t ht
  unfold sWP6 sPM at ht
  simp only [runPM] at ht
  split at ht
  · rename_i s
    obtain ⟨h1, h2⟩ := ctrueS ht
    subst h2
    refine (WPf_ev ..).trans ?_
    rw [show rWZ6 [] = some () from rfl, Option.bind_some, run_WR6 h1, Option.bind_some]; rfl
  · cases ht
end Go.Eng
/- The laws WireWrites, WireCuts, WireReads. -/
namespace Go.Eng
open Go Go.Proofs
set_option linter.unusedVariables false
set_option linter.unusedSimpArgs false
noncomputable abbrev gI_WAn : Cg := g_WAn 
theorem gok_WAn : CfOk prog gI_WAn.c := ⟨gam_nil, fun _ _ h => by cases h⟩
theorem ok_Ans : CallOk prog n_wire_KE2_Answer sAns := by
  refine afunc_okE (g := gI_WAn) (fu := fun _ => 0) mixed gok_WAn h_wire_KE2_Answer (by kernel_rfl) ?_
  intro args t ht
  unfold sAns at ht
  simp only at ht
  split at ht
  · rename_i a b c d e f
    obtain ⟨h1, h2⟩ := ctrueS ht
    subst h2
    have h1 := of_decide_eq_true h1
    refine (WAn_ev ..).trans ?_
    rw [decide_eq_true (by omega), cond_true, decide_eq_true (by rw [List.length_append]; omega), cond_true]; rfl
  · cases ht
noncomputable abbrev gI_WAw : Cg := g_WAw (Str × Int) rWB4 (fun t => t.fst) (fun t => t.snd)
theorem gok_WAw : CfOk prog gI_WAw.c := ⟨gam_cons ok_WB4 <| gam_nil, fun _ _ h => by cases h⟩
theorem ok_awake11 : CallOk prog n_opalinelaw11_awake sTrue := by
  refine afunc_okE (g := gI_WAw) (fu := fun _ => 0) mixed gok_WAw h_opalinelaw11_awake (by kernel_rfl) ?_
  intro args t ht
  unfold sTrue at ht
  simp only at ht
  split at ht
  · cases ht
    refine (WAw_ev ..).trans ?_
    refine Eq.trans (congrArg (fun z => Option.bind z _) (run_WB4 (ss := [List.map b8 (List.replicate 32 (0 : Int)), List.map b8 (List.replicate 32 (0 : Int)), List.map b8 (List.replicate 32 (0 : Int))]) rfl (by decide))) ?_
    rfl
  · cases ht
noncomputable abbrev gI_WCa : Cg := g_WCa 
theorem gok_WCa : CfOk prog gI_WCa.c := ⟨gam_nil, efs_cons eff_Grow <| efs_nil⟩
noncomputable abbrev gI_WCb : Cg := g_WCb 
theorem gok_WCb : CfOk prog gI_WCb.c := ⟨gam_nil, efs_cons eff_Grow <| efs_nil⟩
theorem gWC : gI_WCa.c = gI_WCb.c := rfl
theorem okCt_ok {l : List Str} {n : Nat} (h : okCt l n = true) : n = l.length ∧ l.length ≤ 1048576 := by
  simp only [okCt, Bool.and_eq_true] at h
  exact ⟨Nat.eq_of_beq_eq_true h.1, Nat.le_of_ble_eq_true h.2⟩
theorem okCt_of {l : List Str} {n : Nat} (h : n = l.length) (h2 : l.length ≤ 1048576) : okCt l n = true := by
  subst h; rw [okCt, Nat.beq_refl, Nat.ble_eq_true_of_le h2]; rfl
/-- a contract of two parts: either way it is the function's -/
def sConc1 : Summ where
  T := List Str
  run := fun
    | [.c (.mdat [.dat (.strs a) n 1])] => cond (okCt a n) (some a) none
    | _ => none
  enc := fun t => .s (.dat (.strs t) t.length 1)
def sConc2 : Summ where
  T := List Str
  run := fun
    | [.c (.mdat [.dat (.strs a) n 1, .dat (.strs b) m 1])] => cond (okCt a n && okCt b m) (some (a ++ b)) none
    | _ => none
  enc := fun t => .s (.dat (.strs t) t.length 1)
theorem ok_Conc1 : CallOk prog n_slices_Concat__string_string sConc1 := by
  refine afunc_okE (g := gI_WCa) (fu := fun _ => 0) mixed gok_WCa h_slices_Concat__string_string (by kernel_rfl) ?_
  intro args t ht
  unfold sConc1 at ht
  simp only at ht
  split at ht
  · rename_i a n
    obtain ⟨h1, h2⟩ := ctrueS ht
    subst h2
    obtain ⟨e1, e2⟩ := okCt_ok h1
    subst e1
    refine (WCa_ev ..).trans ?_
    rw [wi64 (n := 0 + (a.length : Int)) (by omega) (by omega), decide_eq_false (by omega), cond_false, decide_eq_true (by omega), cond_true, decide_eq_true (by omega), cond_true, Nat.zero_add]; rfl
  · cases ht
theorem ok_Conc2 : CallOk prog n_slices_Concat__string_string sConc2 := by
  refine afunc_okE (g := gI_WCb) (fu := fun _ => 0) mixed gok_WCb h_slices_Concat__string_string (by kernel_rfl) ?_
  intro args t ht
  unfold sConc2 at ht
  simp only at ht
  split at ht
  · rename_i a n b m
    obtain ⟨h1, h2⟩ := ctrueS ht
    subst h2
    rw [Bool.and_eq_true] at h1
    obtain ⟨e1, e2⟩ := okCt_ok h1.1
    obtain ⟨f1, f2⟩ := okCt_ok h1.2
    subst e1 f1
    refine (WCb_ev ..).trans ?_
    rw [wi64 (n := 0 + (a.length : Int)) (by omega) (by omega), decide_eq_false (by omega), cond_false, wi64 (by omega) (by omega), decide_eq_false (by omega), cond_false, decide_eq_true (by omega), cond_true, decide_eq_true (by omega), cond_true, decide_eq_true (by omega), cond_true, Nat.zero_add, List.nil_append, ← List.length_append]; rfl
  · cases ht
theorem ok_Conc : CallOk prog n_slices_Concat__string_string sConc := by
  intro args t ht
  unfold sConc at ht
  simp only at ht
  split at ht
  · rename_i a n
    exact ok_Conc1 [.c (.mdat [.dat (.strs a) n 1])] t ht
  · rename_i a n b m
    exact ok_Conc2 [.c (.mdat [.dat (.strs a) n 1, .dat (.strs b) m 1])] t ht
  · cases ht
theorem run_Conc1 {a : List Str} (h : a.length ≤ 1048576) : rConc [.c (.mdat [.dat (.strs a) a.length 1])] = some a := by
  simp only [rConc, sConc, okCt_of rfl h, cond_true]
theorem run_Conc2 {a b : List Str} {n m : Nat} (h : okCt a n = true) (h2 : okCt b m = true) : rConc [.c (.mdat [.dat (.strs a) n 1, .dat (.strs b) m 1])] = some (a ++ b) := by
  have e : (okCt a n && okCt b m) = true := by rw [h, h2]; rfl
  simp only [rConc, sConc]
  rw [e, cond_true]
/-! ## parts -/
theorem eta1 {l : List Str} (h : l.length = 1) : [l.getD 0 []] = l := by match l, h with | [a], _ => rfl
theorem eta2 {l : List Str} (h : l.length = 2) : [l.getD 0 []] ++ [l.getD 1 []] = l := by match l, h with | [a, b], _ => rfl
theorem eta3 {l : List Str} (h : l.length = 3) : [l.getD 0 []] ++ ([l.getD 1 []] ++ [l.getD 2 []]) = l := by match l, h with | [a, b, c], _ => rfl
theorem eta6 {l : List Str} (h : l.length = 6) : [l.getD 0 []] ++ ([l.getD 1 []] ++ ([l.getD 2 []] ++ ([l.getD 3 []] ++ ([l.getD 4 []] ++ [l.getD 5 []])))) = l := by match l, h with | [a, b, c, d, e, f], _ => rfl
noncomputable abbrev gI_WPt : Cg := g_WPt (List Str × Int) rWP1 (fun t => t.fst) (fun t => t.snd) (Str × Int) rWB1 (fun t => t.fst) (fun t => t.snd) (List Str × Int) rWP2 (fun t => t.fst) (fun t => t.snd) (Str × Int) rWB2 (fun t => t.fst) (fun t => t.snd) (List Str × Int) rWP3 (fun t => t.fst) (fun t => t.snd) (Str × Int) rWB3 (fun t => t.fst) (fun t => t.snd) (List Str × Int) rWP4 (fun t => t.fst) (fun t => t.snd) (Str × Int) rWB4 (fun t => t.fst) (fun t => t.snd) (List Str × Int) rWP5 (fun t => t.fst) (fun t => t.snd) (Str × Int) rWB5 (fun t => t.fst) (fun t => t.snd) (List Str × Int) rWP6 (fun t => t.fst) (fun t => t.snd) (Str × Int) rWB6 (fun t => t.fst) (fun t => t.snd)
theorem gok_WPt : CfOk prog gI_WPt.c := ⟨gam_cons ok_WP1 <| gam_cons ok_WB1 <| gam_cons ok_WP2 <| gam_cons ok_WB2 <| gam_cons ok_WP3 <| gam_cons ok_WB3 <| gam_cons ok_WP4 <| gam_cons ok_WB4 <| gam_cons ok_WP5 <| gam_cons ok_WB5 <| gam_cons ok_WP6 <| gam_cons ok_WB6 <| gam_nil, fun _ _ h => by cases h⟩
theorem szOf_else {m : Int} (h0 : m ≠ 0) (h1 : m ≠ 1) (h2 : m ≠ 2) (h3 : m ≠ 3) (h4 : m ≠ 4) : szOf m = [64] := by
  unfold szOf
  split <;> first | rfl | contradiction
theorem okS40_ok {s : Str} (h : okS40 s = true) : s.length ≤ 1099511627776 := Nat.le_of_ble_eq_true h
theorem okS40_of {s : Str} (h : s.length ≤ 1099511627776) : okS40 s = true := Nat.ble_eq_true_of_le h
theorem ok_PartsW : CallOk prog n_opalinelaw11_parts sPartsW := by
  refine afunc_okE (g := gI_WPt) (fu := fun _ => 0) mixed gok_WPt h_opalinelaw11_parts (by kernel_rfl) ?_
  intro args t ht
  unfold sPartsW at ht
  simp only at ht
  split at ht
  · rename_i s m
    obtain ⟨h1, h2⟩ := ctrueS ht
    subst h2
    have hs := okS40_ok h1
    have fl : ∀ l, (parseW l s).1.flatten.length ≤ 1099511627776 := fun l => Nat.le_trans (parseW_flat s l) hs
    refine (WPt_ev ..).trans ?_
    unfold partsA
    by_cases c0 : m = 0
    · subst c0
      have l := parseW_len s [32]
      rw [decide_eq_true rfl, cond_true, run_WP1 h1, Option.bind_some, run_WB1 l (fl _), Option.bind_some, eta1 l]
      show _ = some (sPartsW.enc (((parseW [32] s).1, (joinS [32] (parseW [32] s).1).1), ((parseW [32] s).2, (joinS [32] (parseW [32] s).1).2)))
      unfold sPartsW
      simp only [l]; rfl
    rw [decide_eq_false c0, cond_false]
    by_cases c1 : m = 1
    · subst c1
      have l := parseW_len s [32, 32]
      rw [decide_eq_true rfl, cond_true, run_WP2 h1, Option.bind_some, run_WB2 l (fl _), Option.bind_some, eta2 l]
      show _ = some (sPartsW.enc (((parseW [32, 32] s).1, (joinS [32, 32] (parseW [32, 32] s).1).1), ((parseW [32, 32] s).2, (joinS [32, 32] (parseW [32, 32] s).1).2)))
      unfold sPartsW
      simp only [l]; rfl
    rw [decide_eq_false c1, cond_false]
    by_cases c2 : m = 2
    · subst c2
      have l := parseW_len s [32, 64, 96]
      rw [decide_eq_true rfl, cond_true, run_WP3 h1, Option.bind_some, run_WB3 l (fl _), Option.bind_some, eta3 l]
      show _ = some (sPartsW.enc (((parseW [32, 64, 96] s).1, (joinS [32, 64, 96] (parseW [32, 64, 96] s).1).1), ((parseW [32, 64, 96] s).2, (joinS [32, 64, 96] (parseW [32, 64, 96] s).1).2)))
      unfold sPartsW
      simp only [l]; rfl
    rw [decide_eq_false c2, cond_false]
    by_cases c3 : m = 3
    · subst c3
      have l := parseW_len s [32, 32, 32]
      rw [decide_eq_true rfl, cond_true, run_WP4 h1, Option.bind_some, run_WB4 l (fl _), Option.bind_some, eta3 l]
      show _ = some (sPartsW.enc (((parseW [32, 32, 32] s).1, (joinS [32, 32, 32] (parseW [32, 32, 32] s).1).1), ((parseW [32, 32, 32] s).2, (joinS [32, 32, 32] (parseW [32, 32, 32] s).1).2)))
      unfold sPartsW
      simp only [l]; rfl
    rw [decide_eq_false c3, cond_false]
    by_cases c4 : m = 4
    · subst c4
      have l := parseW_len s [32, 32, 128, 32, 32, 64]
      rw [decide_eq_true rfl, cond_true, run_WP5 h1, Option.bind_some, run_WB5 l (fl _), Option.bind_some, eta6 l]
      show _ = some (sPartsW.enc (((parseW [32, 32, 128, 32, 32, 64] s).1, (joinS [32, 32, 128, 32, 32, 64] (parseW [32, 32, 128, 32, 32, 64] s).1).1), ((parseW [32, 32, 128, 32, 32, 64] s).2, (joinS [32, 32, 128, 32, 32, 64] (parseW [32, 32, 128, 32, 32, 64] s).1).2)))
      unfold sPartsW
      simp only [l]; rfl
    rw [decide_eq_false c4, cond_false, szOf_else c0 c1 c2 c3 c4]
    have l := parseW_len s [64]
    rw [run_WP6 h1, Option.bind_some, run_WB6 l (fl _), Option.bind_some, eta1 l]
    unfold sPartsW
    simp only [l]; rfl
  · cases ht
/-! ## the laws -/
theorem run_PartsW {s : Str} {m : Int} (h : okS40 s = true) : rPartsW [.str s, .int .i64 m] = some (partsA s m) := by
  simp only [rPartsW, sPartsW, h, cond_true]
theorem run_EqSs {a b : List Str} {n m : Nat} (h1 : n = a.length) (h2 : m = b.length) (h3 : a.length ≤ 1048576) : rEqSs [.s (.dat (.strs a) n 1), .s (.dat (.strs b) m 1)] = some (decide (a = b)) := by
  subst h1 h2
  have e : (Nat.beq a.length a.length && Nat.beq b.length b.length && Nat.ble a.length 1048576) = true := by rw [Nat.beq_refl, Nat.beq_refl, Nat.ble_eq_true_of_le h3]; rfl
  simp only [rEqSs, sEqSs]
  rw [e, cond_true]
theorem fit_cut : ∀ (l : List Int) (s : Str), anyNeg l = false → sumI l = (s.length : Int) → fitS l (cutP s l) = true ∧ (cutP s l).flatten = s := by
  intro l
  induction l with
  | nil =>
    intro s _ h
    rw [sumI] at h
    have : s = [] := List.eq_nil_of_length_eq_zero (by omega)
    subst this; exact ⟨rfl, rfl⟩
  | cons n r ih =>
    intro s h hs
    obtain ⟨h0, hr⟩ := nn_cons h
    have := sumI_nn hr
    rw [sumI] at hs
    obtain ⟨i1, i2⟩ := ih (s.drop n.toNat) hr (by rw [List.length_drop]; omega)
    rw [cutP, fitS, i1, List.flatten_cons, i2, List.take_append_drop, decide_eq_true (by rw [List.length_take]; omega)]
    exact ⟨rfl, rfl⟩
theorem join_split (s : Str) (l : List Int) (h : (splitS s l).2 = 0) : joinS l (splitS s l).1 = (s, 0) := by
  have hl := splitS_len s l h
  unfold splitS at *
  cases hn : anyNeg l
  · rw [hn] at h hl
    rw [cond_false] at h hl ⊢
    rw [cutS_eq _ _ _ hn] at h hl ⊢
    by_cases c : (s.length : Int) < sumI l
    · rw [decide_eq_true c, cond_true] at h; cases h
    · rw [decide_eq_false c, cond_false] at h hl ⊢
      by_cases c2 : sumI l < (s.length : Int)
      · rw [decide_eq_true c2, cond_true] at h; cases h
      · rw [decide_eq_false c2, cond_false, List.nil_append] at hl ⊢
        obtain ⟨i1, i2⟩ := fit_cut l s hn (by omega)
        rw [joinS]
        show cond (Nat.beq l.length (cutP s l).length) _ _ = _
        have hl : (cutP s l).length = l.length := hl
        rw [hl, Nat.beq_refl, cond_true]
        show cond (fitS l (cutP s l)) ((cutP s l).flatten, 0) _ = _
        rw [i1, i2]; rfl
  · rw [hn, cond_true] at h; cases h
theorem parseW_two (s : Str) (l : List Int) : (parseW l s).2 = (splitS s l).2 := by
  unfold parseW
  by_cases h : (splitS s l).2 = 0
  · rw [decide_eq_true h, cond_true, h]
  · rw [decide_eq_false h, cond_false]
theorem szOf_head (m : Int) : ∃ n r, szOf m = n :: r ∧ 0 < n ∧ (szOf m).length ≤ 6 := by
  unfold szOf
  split <;> exact ⟨_, _, rfl, by decide, by decide⟩
theorem okLs_sz (m : Int) : okLs (szOf m) (szOf m).length = true := by
  unfold szOf
  split <;> decide
theorem joinS_none (n : Int) (r : List Int) (h : 0 < n) : joinS (n :: r) (List.replicate (n :: r).length []) = ([], 4) := by
  rw [joinS, List.length_replicate, Nat.beq_refl, cond_true, List.length_cons, List.replicate_succ, fitS, decide_eq_false (by simp; omega)]; rfl
def sTS1 : Summ where
  T := Unit
  run := fun
    | [.c (.s (.pl (.str a)))] => some ()
    | _ => none
  enc := fun _ => .bool true
noncomputable abbrev gI_WLR : Cg := g_WLR (PUnit) rTrue ((List Str × Str) × Int × Int) rPartsW (fun t => t.fst.fst) (fun t => t.fst.fst.length) (fun t => t.fst.snd) (fun t => t.snd.fst) (fun t => t.snd.snd) (List Int) rSizes (fun t => t) (fun t => t.length) (List Str × Int) rSplit (fun t => t.fst) (fun t => t.fst.length) (fun t => t.snd) (Bool) rEqSs (fun t => t) (List Str) rConc (fun t => t) (fun t => t.length)
theorem gok_WLR : CfOk prog gI_WLR.c := ⟨gam_cons ok_awake11 <| gam_cons ok_PartsW <| gam_cons ok_Sizes <| gam_cons ok_RefSplitW <| gam_cons ok_EqSs <| gam_cons ok_Conc <| gam_nil, fun _ _ h => by cases h⟩
theorem run_Sizes (m : Int) : rSizes [.int .i64 m] = some (szOf m) := rfl
theorem wr_loop (s : Str) (hs : s.length ≤ 1000) (fu : Nat) : ∀ (d n m : Nat), m + d = 6 → d < n →
    lpA prog gI_WLR fu WLR_b1 (WLR_k1 _ rTrue _ rPartsW (fun t => t.1.1) (fun t => t.1.1.length) (fun t => t.1.2) (fun t => t.2.1) (fun t => t.2.2) _ rSizes (fun t => t) (fun t => t.length) _ rSplit (fun t => t.1) (fun t => t.1.length) (fun t => t.2) _ rEqSs (fun t => t) _ rConc (fun t => t) (fun t => t.length) fu) n (some (WLR_s1 s (m : Int))) = some (.bool true) := by
  intro d
  induction d with
  | zero =>
    intro n m hm hn
    obtain ⟨n, rfl⟩ := Nat.exists_eq_succ_of_ne_zero (by omega : n ≠ 0)
    rw [lpA_succ, WLR_r1, decide_eq_false (by omega), cond_false, kOut_some, WLR_c1e0]
  | succ d ih =>
    intro n m hm hn
    obtain ⟨n, rfl⟩ := Nat.exists_eq_succ_of_ne_zero (by omega : n ≠ 0)
    have h := ih n (m + 1) (by omega) (by omega)
    have o := okS40_of (s := s) (by omega)
    obtain ⟨a, r, hz, ha, h6⟩ := szOf_head (m : Int)
    have pl := parseW_len s (szOf (m : Int))
    rw [lpA_succ, WLR_r1, decide_eq_true (by omega), cond_true, run_PartsW o, Option.bind_some, run_Sizes, Option.bind_some, run_Split o (okLs_sz _), Option.bind_some]
    unfold partsA
    simp only
    rw [parseW_two, decide_eq_true (rfl : (splitS s (szOf (m : Int))).2 = _), Bool.not_true, cond_false, wi64 (by omega) (by omega)]
    by_cases c : (splitS s (szOf (m : Int))).2 = 0
    · have e : (parseW (szOf (m : Int)) s).1 = (splitS s (szOf (m : Int))).1 := by rw [parseW, decide_eq_true c, cond_true]
      have j := join_split s _ c
      rw [decide_eq_true c, cond_true, run_EqSs rfl rfl (by omega), Option.bind_some, e, decide_eq_true (rfl : (splitS s (szOf (m : Int))).1 = _), j]
      dsimp only
      rw [decide_eq_true (rfl : (0 : Int) = 0), decide_eq_true (rfl : s = s)]
      exact h
    · have e : (parseW (szOf (m : Int)) s).1 = List.replicate (szOf (m : Int)).length [] := by rw [parseW, decide_eq_false c, cond_false]
      have j := joinS_none a r ha
      rw [← hz] at j
      rw [decide_eq_false c, cond_false, Bool.not_false, cond_true, e, List.length_replicate]
      have rc := run_Conc1 (a := List.replicate (szOf (m : Int)).length []) (by rw [List.length_replicate]; omega)
      rw [List.length_replicate] at rc
      rw [rc, Option.bind_some, Option.bind_some, List.length_replicate, decide_eq_true rfl, Bool.not_true, cond_false, decide_eq_true (by rw [hz, List.length_cons]; omega), cond_true, j]
      have g : (List.replicate (szOf (m : Int)).length ([] : Str)).getD 0 [] = [] := by rw [hz, List.length_cons, List.replicate_succ]; rfl
      rw [g]
      exact h
theorem ok_WireReads : CallOk prog n_opalinelaw11_WireReads sTS1 := by
  refine afunc_okE (g := gI_WLR) (fu := fun _ => 7) mixed gok_WLR h_opalinelaw11_WireReads (by kernel_rfl) ?_
  intro args t ht
  unfold sTS1 at ht
  simp only at ht
  split at ht
  · rename_i s
    clear ht
    refine (WLR_ev ..).trans ?_
    rw [show rTrue [] = some () from rfl, Option.bind_some]
    by_cases c : 1000 < s.length
    · rw [decide_eq_true (by omega), cond_true]; rfl
    · rw [decide_eq_false (by omega), cond_false]
      exact wr_loop s (by omega) 7 6 7 0 (by omega) (by decide)
  · cases ht
noncomputable abbrev gI_WLW : Cg := g_WLW (PUnit) rTrue (List Str) rConc (fun t => t) (fun t => t.length) (Str × Int) rWB5 (fun t => t.fst) (fun t => t.snd) (List Int) rSizes (fun t => t) (fun t => t.length) (Str × Int) rJoinW (fun t => t.fst) (fun t => t.snd) (Str × Int) rWB3 (fun t => t.fst) (fun t => t.snd) (List UInt8) rAns (fun t => t)
theorem gok_WLW : CfOk prog gI_WLW.c := ⟨gam_cons ok_awake11 <| gam_cons ok_Conc <| gam_cons ok_WB5 <| gam_cons ok_Sizes <| gam_cons ok_RefJoinW <| gam_cons ok_WB3 <| gam_cons ok_Ans <| gam_nil, fun _ _ h => by cases h⟩
def sKR : Summ where
  T := Unit
  run := fun
    | [.c (.s (.pl (.agg (.strs [a, b, c, d, e, f]) 6))), .c (.s (.pl (.agg (.strs [g, h, i]) 3)))] => some ()
    | _ => none
  enc := fun _ => .bool true
theorem ww_loop (x5 : List Str) (n5 : Nat) (x6 : List Str) (n6 : Nat) (l : List Str) (hl : l.length ≤ 1000) (x0 x1 : List Str) (fu : Nat) : ∀ (d n i : Nat), i + d = l.length → d < n →
    lpA prog gI_WLW fu WLW_b1 (WLW_k1 _ rTrue _ rConc (fun t => t) (fun t => t.length) _ rWB5 (fun t => t.1) (fun t => t.2) _ rSizes (fun t => t) (fun t => t.length) _ rJoinW (fun t => t.1) (fun t => t.2) _ rWB3 (fun t => t.1) (fun t => t.2) _ rAns (fun t => t) fu) n (some (WLW_s1 x5 n5 x6 n6 l l.length (l.length : Int) (i : Int) x0 x1)) =
      cond ((l.drop i).any fun p => decide (300 < p.length)) (some (.bool true)) (WLW_k1 _ rTrue _ rConc (fun t => t) (fun t => t.length) _ rWB5 (fun t => t.1) (fun t => t.2) _ rSizes (fun t => t) (fun t => t.length) _ rJoinW (fun t => t.1) (fun t => t.2) _ rWB3 (fun t => t.1) (fun t => t.2) _ rAns (fun t => t) fu (.exit 0) (WLW_o1e0 x5 n5 x6 n6 x0 x1)) := by
  intro d
  induction d with
  | zero =>
    intro n i hi hn
    obtain ⟨n, rfl⟩ := Nat.exists_eq_succ_of_ne_zero (by omega : n ≠ 0)
    rw [lpA_succ, WLW_r1, decide_eq_false (by omega), cond_false, kOut_some, List.drop_eq_nil_of_le (by omega : l.length ≤ i), List.any_nil, cond_false]
  | succ d ih =>
    intro n i hi hn
    obtain ⟨n, rfl⟩ := Nat.exists_eq_succ_of_ne_zero (by omega : n ≠ 0)
    have h := ih n (i + 1) (by omega) (by omega)
    rw [lpA_succ, WLW_r1, decide_eq_true (by omega), cond_true, decide_eq_true (by omega), cond_true, Int.toNat_natCast, drop_getD l i (by omega) [], List.any_cons]
    by_cases c : 300 < (l.getD i []).length
    · rw [decide_eq_true (by omega), cond_true, kOut_some, WLW_c1r, decide_eq_true c]; rfl
    · rw [decide_eq_false (by omega), cond_false, decide_eq_false c, Bool.false_or, wi64 (by omega) (by omega)]
      exact h
theorem ok_WireWrites : CallOk prog n_opalinelaw11_WireWrites sKR := by
  refine afunc_okE (g := gI_WLW) (fu := fun _ => 20) mixed gok_WLW h_opalinelaw11_WireWrites (by kernel_rfl) ?_
  intro args t ht
  unfold sKR at ht
  simp only at ht
  split at ht
  · rename_i a b c d e f g h i
    clear ht
    refine (WLW_ev ..).trans ?_
    rw [show rTrue [] = some () from rfl, Option.bind_some]
    show (rConc [.c (.mdat [.dat (.strs [a, b, c, d, e, f]) 6 1, .dat (.strs [g, h, i]) 3 1])]).bind _ = _
    rw [run_Conc2 (a := [a, b, c, d, e, f]) (b := [g, h, i]) (n := 6) (m := 3) (okCt_of rfl (by simp)) (okCt_of rfl (by simp)), Option.bind_some]
    refine Eq.trans (ww_loop _ _ _ _ ([a, b, c, d, e, f] ++ [g, h, i]) (by simp) _ _ 20 9 20 0 (by simp) (by decide)) ?_
    rw [List.drop_zero]
    cases hb : (([a, b, c, d, e, f] ++ [g, h, i]).any fun p => decide (300 < p.length))
    · rw [cond_false]
      have hall : ∀ x ∈ ([a, b, c, d, e, f] ++ [g, h, i]), x.length ≤ 300 := fun x hx => by
        have := List.any_eq_false.1 hb x hx
        simpa using this
      have ha := hall a (by simp)
      have hb' := hall b (by simp)
      have hc := hall c (by simp)
      have hd := hall d (by simp)
      have he := hall e (by simp)
      have hf := hall f (by simp)
      have hg := hall g (by simp)
      have hh := hall h (by simp)
      have hi := hall i (by simp)
      have f6 : ([a, b, c, d, e, f] : List Str).flatten.length ≤ 1099511627776 := by simp; omega
      have f3 : ([g, h, i] : List Str).flatten.length ≤ 1099511627776 := by simp; omega
      rw [WLW_c1e0, run_WB5 rfl f6, Option.bind_some, run_Sizes, Option.bind_some, run_Sizes]
      show (rJoinW [.s (.dat (.ints .i64 [32, 32, 128, 32, 32, 64]) 6 1), .s (.dat (.strs [a, b, c, d, e, f]) 6 1)]).bind _ = _
      rw [run_JoinW (n := 6) (m := 6) (by decide) (okSs_of rfl (by simp) f6), Option.bind_some, run_WB3 rfl f3, Option.bind_some, Option.bind_some]
      show (rJoinW [.s (.dat (.ints .i64 [32, 64, 96]) 3 1), .s (.dat (.strs [g, h, i]) 3 1)]).bind _ = _
      rw [run_JoinW (n := 3) (m := 3) (by decide) (okSs_of rfl (by simp) f3), Option.bind_some, decide_eq_true rfl, cond_true, decide_eq_true rfl, cond_true, decide_eq_true rfl, cond_true, decide_eq_true rfl, cond_true]
      have ra : rAns [.agg (.strs [a, b, c, d, e, f]) 6] = some (a ++ b ++ c) := by
        have e : decide (a.length + b.length + c.length ≤ 1099511627776) = true := decide_eq_true (by omega)
        simp only [rAns, sAns]
        rw [e, cond_true]
      rw [ra, Option.bind_some]
      show (bif decide (a.length + b.length ≤ _) then (bif decide (List.length (a ++ b) + c.length ≤ _) then some (AV.bool (decide (a ++ b ++ c = a ++ b ++ c))) else none) else none) = _
      rw [decide_eq_true (by omega), cond_true, decide_eq_true (by rw [List.length_append]; omega), cond_true, decide_eq_true rfl]; rfl
    · rfl
  · cases ht
noncomputable abbrev gI_WLC : Cg := g_WLC (PUnit) rTrue (List Str × Int) rSplit (fun t => t.fst) (fun t => t.fst.length) (fun t => t.snd) (List Str × Int) rSplit (fun t => t.fst) (fun t => t.fst.length) (fun t => t.snd) (Str × Int) rJoinW (fun t => t.fst) (fun t => t.snd) (Str × Int) rJoinW (fun t => t.fst) (fun t => t.snd) (Bool) rEqSs (fun t => t)
theorem gok_WLC : CfOk prog gI_WLC.c := ⟨gam_cons ok_awake11 <| gam_cons ok_SplitW <| gam_cons ok_RefSplitW <| gam_cons ok_JoinW <| gam_cons ok_RefJoinW <| gam_cons ok_EqSs <| gam_nil, fun _ _ h => by cases h⟩
def sCuts : Summ where
  T := Unit
  run := fun
    | [.c (.s (.pl (.str s))), .c (.s (.dat (.ints .i64 l) n 1)), .c (.s (.dat (.strs ps) m 1))] => cond (okLs l n && okSs ps m) (some ()) none
    | _ => none
  enc := fun _ => .bool true
theorem ok_WireCuts : CallOk prog n_opalinelaw11_WireCuts sCuts := by
  refine afunc_okE (g := gI_WLC) (fu := fun _ => 0) mixed gok_WLC h_opalinelaw11_WireCuts (by kernel_rfl) ?_
  intro args t ht
  unfold sCuts at ht
  simp only at ht
  split at ht
  · rename_i s l n ps m
    obtain ⟨h1, h2⟩ := ctrueS ht
    rw [Bool.and_eq_true] at h1
    clear ht
    obtain ⟨e1, e2, e3⟩ := okLs_ok h1.1
    obtain ⟨f1, f2, f3⟩ := okSs_ok h1.2
    subst e1 f1
    refine (WLC_ev ..).trans ?_
    rw [show rTrue [] = some () from rfl, Option.bind_some]
    by_cases c : 1000 < s.length
    · rw [decide_eq_true (by omega), cond_true]; rfl
    rw [decide_eq_false (by omega), cond_false]
    by_cases c1 : 20 < l.length
    · rw [decide_eq_true (by omega), cond_true]; rfl
    rw [decide_eq_false (by omega), cond_false]
    by_cases c2 : 20 < ps.length
    · rw [decide_eq_true (by omega), cond_true]; rfl
    have o := okS40_of (s := s) (by omega)
    have sf := splitS_flat s l
    rw [decide_eq_false (by omega), cond_false, run_Split o h1.1, Option.bind_some, Option.bind_some, run_JoinW h1.1 h1.2, Option.bind_some, Option.bind_some]
    have hsl : (splitS s l).1.length ≤ 1048576 := by
      by_cases c3 : (splitS s l).2 = 0
      · rw [splitS_len s l c3]; omega
      · have : (splitS s l).1 = [] := by
          unfold splitS at c3 ⊢
          cases hn : anyNeg l
          · rw [hn] at c3
            rw [cond_false] at c3 ⊢
            rw [cutS_eq _ _ _ hn] at c3 ⊢
            cases hd : decide ((s.length : Int) < sumI l)
            · rw [hd, cond_false] at c3
              rw [cond_false]
              cases hd2 : decide (sumI l < (s.length : Int))
              · rw [hd2, cond_false] at c3; exact absurd rfl c3
              · rfl
            · rfl
          · rfl
        rw [this]; decide
    rw [run_EqSs rfl rfl hsl, Option.bind_some, decide_eq_true (rfl : (splitS s l).1 = _), decide_eq_true (rfl : (splitS s l).2 = _), decide_eq_true (rfl : (joinS l ps).1 = _), decide_eq_true (rfl : (joinS l ps).2 = _), run_JoinW h1.1 (okSs_of rfl hsl (by omega))]
    simp only [Option.bind_some]
    by_cases c3 : (splitS s l).2 = 0
    · rw [join_split s l c3, decide_eq_true c3]
      dsimp only
      rw [decide_eq_true (rfl : (0 : Int) = 0), decide_eq_true (rfl : s = s)]
      rfl
    · rw [decide_eq_false c3]; rfl
  · cases ht
end Go.Eng
