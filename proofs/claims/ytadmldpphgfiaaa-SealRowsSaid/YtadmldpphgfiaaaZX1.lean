/- Texts of this claim, one behind the other: XmS, GXm1, PXm1, PXm2, PXm3. -/
import Derived.KernelRfl
import Derived.Test.YtadmldpphgfiaaaEngNums
import Derived.Test.YtadmldpphgfiaaaInLimb
import Derived.Test.YtadmldpphgfiaaaZH1
/- The contracts of xmd, hmac.Expand, Label, Secret and of their documents: how they are told. -/
namespace Go.Eng
open Go Go.Proofs
set_option linter.unusedVariables false
set_option linter.unusedSimpArgs false
def xorL (a b : Str) : Str := List.zipWith (fun x y => b8 ((x.toNat ^^^ y.toNat : Nat) : Int)) a b
def by1 (n : Nat) : Str := [b8 ((n % 256 : Nat) : Int)]
def markS (d : Str) : Str × Int := if 255 < d.length then ([], 5) else if d = [] then ([], 3) else (d ++ by1 d.length, 0)
/-- the first so many blocks, one behind the other -/
def blocksS (f : Nat → Str) (k : Nat) : Str := ((List.range k).map f).flatten
def up64 (n : Nat) : Nat := (n + 63) / 64
def xFirst (dst : Str) (n : Nat) (m : Str) : Str := hS (List.replicate 128 0 ++ (m ++ (by1 (n / 256) ++ (by1 n ++ ([0] ++ (dst ++ by1 dst.length))))))
def xB (dst : Str) (n : Nat) (m : Str) : Nat → Str
  | 0 => hS (xFirst dst n m ++ ([1] ++ (dst ++ by1 dst.length)))
  | i + 1 => hS (xorL (xFirst dst n m) (xB dst n m i) ++ (by1 (i + 2) ++ (dst ++ by1 dst.length)))
def xmdS (dst : Str) (n : Nat) (m : Str) : Str := (blocksS (xB dst n m) (up64 n)).take n
def xmdA (dst : Str) (n : Int) (m : Str) : Str × Int := if n < 1 ∨ 16320 < n then ([], 2) else if (markS dst).2 ≠ 0 then ([], (markS dst).2) else (xmdS dst n.toNat m, 0)
def sXor : Summ where
  T := Str
  run := fun
    | [.c (.s (.pl (.str a))), .c (.s (.pl (.str b)))] => cond (okLen a && okLen b) (some (xorL a b)) none
    | _ => none
  enc := fun t => .str t
def rXor : List AV → Option Str := sXor.run
def sMark : Summ where
  T := Str × Int
  run := fun
    | [.c (.s (.pl (.str a)))] => cond (okLen a) (some (markS a)) none
    | _ => none
  enc := fun t => .tup [.s (.pl (.str t.1)), .s (.pl (.int .i64 t.2))]
def rMark : List AV → Option (Str × Int) := sMark.run
def sOneB : Summ where
  T := Str
  run := fun
    | [.c (.s (.pl (.int .u8 n)))] => some [b8 n]
    | _ => none
  enc := fun t => .str t
def rOneB : List AV → Option Str := sOneB.run
def sXsum : Summ where
  T := Str
  run := fun
    | [.c (.s (.dat (.strs ss) n 1))] => cond (okSum ss n) (some (hS (Lib.join ss []))) none
    | _ => none
  enc := fun t => .str t
def rXsum : List AV → Option Str := sXsum.run
def sXmd : Summ where
  T := Str × Int
  run := fun
    | [.c (.s (.pl (.str d))), .c (.s (.pl (.int .i64 k))), .c (.s (.dat (.strs ss) n 1))] => cond (okLen d && okJ ss n) (some (xmdA d k (Lib.join ss []))) none
    | _ => none
  enc := fun t => .tup [.s (.pl (.str t.1)), .s (.pl (.int .i64 t.2))]
def rXmd : List AV → Option (Str × Int) := sXmd.run
def sRefXmd : Summ where
  T := Str
  run := fun
    | [.c (.s (.pl (.str d))), .c (.s (.pl (.int .i64 k))), .c (.s (.pl (.str m)))] => cond (okLen m && decide (d.length ≤ 255 ∧ 1 ≤ k ∧ k ≤ 16320)) (some (xmdS d k.toNat m)) none
    | _ => none
  enc := fun t => .str t
def rRefXmd : List AV → Option Str := sRefXmd.run
/-! ## expansions -/
def eB (prk info : Str) : Nat → Str
  | 0 => hmacS prk (info ++ by1 1)
  | i + 1 => hmacS prk (eB prk info i ++ (info ++ by1 (i + 2)))
def expS (prk info : Str) (n : Nat) : Str := (blocksS (eB prk info) (up64 n)).take n
def expA (prk info : Str) (n : Int) : Str × Int := if n < 0 then ([], 2) else if 16320 < n then ([], 5) else (expS prk info n.toNat, 0)
def okL2 (s : Str) : Bool := Nat.ble s.length 1099511000000
def opq : Str := [79, 80, 65, 81, 85, 69, 45]
def infoS (label context : Str) (n : Nat) : Str := pre2 n ++ (by1 (opq ++ label).length ++ ((opq ++ label) ++ (by1 context.length ++ context)))
def labelS (secret label context : Str) (n : Nat) : Str := expS secret (infoS label context n) n
def labelA (secret label context : Str) (n : Int) : Str × Int := if 248 < label.length ∨ 255 < context.length then ([], 5) else if n < 0 then ([], 2) else if 16320 < n then ([], 5) else (labelS secret label context n.toNat, 0)
def sExpand : Summ where
  T := Str × Int
  run := fun
    | [.c (.s (.pl (.str k))), .c (.s (.pl (.str i))), .c (.s (.pl (.int .i64 n)))] => cond (okLen k && okL2 i) (some (expA k i n)) none
    | _ => none
  enc := fun t => .tup [.s (.pl (.str t.1)), .s (.pl (.int .i64 t.2))]
def rExpand : List AV → Option (Str × Int) := sExpand.run
def sLabel : Summ where
  T := Str × Int
  run := fun
    | [.c (.s (.pl (.str k))), .c (.s (.pl (.str l))), .c (.s (.pl (.str c))), .c (.s (.pl (.int .i64 n)))] => cond (okLen k && okL2 l && okL2 c && decide (-9223372036854775808 ≤ n ∧ n < 9223372036854775808)) (some (labelA k l c n)) none
    | _ => none
  enc := fun t => .tup [.s (.pl (.str t.1)), .s (.pl (.int .i64 t.2))]
def rLabel : List AV → Option (Str × Int) := sLabel.run
def sSecret : Summ where
  T := Str
  run := fun
    | [.c (.s (.pl (.str k))), .c (.s (.pl (.str l))), .c (.s (.pl (.str c)))] => cond (okLen k && okL2 l && okL2 c) (some (labelA k l c 64).1) none
    | _ => none
  enc := fun t => .str t
def rSecret : List AV → Option Str := sSecret.run
def sRefExpand : Summ where
  T := Str
  run := fun
    | [.c (.s (.pl (.str k))), .c (.s (.pl (.str i))), .c (.s (.pl (.int .i64 n)))] => cond (okLen k && okL2 i && decide (0 ≤ n ∧ n ≤ 1000000)) (some (expS k i n.toNat)) none
    | _ => none
  enc := fun t => .str t
def rRefExpand : List AV → Option Str := sRefExpand.run
def sRefLabel : Summ where
  T := Str
  run := fun
    | [.c (.s (.pl (.str k))), .c (.s (.pl (.str l))), .c (.s (.pl (.str c))), .c (.s (.pl (.int .i64 n)))] => cond (okLen k && decide (l.length ≤ 248 ∧ c.length ≤ 255 ∧ 0 ≤ n ∧ n ≤ 1000000)) (some (labelS k l c n.toNat)) none
    | _ => none
  enc := fun t => .str t
def rRefLabel : List AV → Option Str := sRefLabel.run
end Go.Eng
/- GENERATED by gen.py: what the evaluator comes to at these functions. -/
namespace Go.Eng
open Go Go.Proofs
set_option linter.unusedVariables false
set_option linter.unusedSimpArgs false
noncomputable def g_XmXo : Cg := ⟨⟨gam [], [], noE⟩, [(4, [0, 1, 5, 14, 15], [5])]⟩
noncomputable def XmXo_s1 (s0 s1 : Str) (n5 : Nat) (v14 v15 : Int) (m_0 : Nat) (x_0 : List Int) : St :=
  { tm := [((0 : Nat), AV.str s0), ((1 : Nat), AV.str s1), ((5 : Nat), AV.s (SV.own (0 : Nat) n5 (1 : Nat))), ((14 : Nat), AV.int IntKind.i64 v14), ((15 : Nat), AV.int IntKind.i64 v15)], hp := [((0 : Nat), { ty := (5 : Nat), n := m_0, row := Row.t (TRow.ints IntKind.u8 x_0) })], nx := (1 : Nat), sz := (31 : Nat) }
noncomputable def XmXo_b1 : Code := bodyL (codeAt [1, 1, 0, 1, 2] (codeF f_xmd_Xor))
noncomputable def XmXo_k1 (fu : Nat) := kAt prog g_XmXo fu [1, 1, 0, 1, 2] (codeF f_xmd_Xor) (kFin prog f_xmd_Xor)
noncomputable abbrev XmXo_L1 (fu : Nat) (s0 s1 : Str) (n5 : Nat) (v14 v15 : Int) (m_0 : Nat) (x_0 : List Int) := lpA prog g_XmXo fu XmXo_b1 (XmXo_k1 fu ) fu (some (XmXo_s1 s0 s1 n5 v14 v15 m_0 x_0))
theorem XmXo_ev (fu : Nat) (a b : Str) : afunc prog f_xmd_Xor g_XmXo fu [AV.str a, AV.str b] =
  bif
      decide
        (((0 : Int) ≤ if (↑(List.length b) : Int) < (↑(List.length a) : Int) then (↑(List.length b) : Int) else (↑(List.length a) : Int)) ∧
          ((if (↑(List.length b) : Int) < (↑(List.length a) : Int) then (↑(List.length b) : Int) else (↑(List.length a) : Int)) ≤
              if (↑(List.length b) : Int) < (↑(List.length a) : Int) then (↑(List.length b) : Int) else (↑(List.length a) : Int)) ∧
            (if (↑(List.length b) : Int) < (↑(List.length a) : Int) then (↑(List.length b) : Int) else (↑(List.length a) : Int)) ≤ (1099511627776 : Int)) then
    XmXo_L1 fu a b (if (↑(List.length b) : Int) < (↑(List.length a) : Int) then (↑(List.length b) : Int) else (↑(List.length a) : Int)).toNat
      (↑(if (↑(List.length b) : Int) < (↑(List.length a) : Int) then (↑(List.length b) : Int) else (↑(List.length a) : Int)).toNat : Int) (0 : Int)
      ((if (↑(List.length b) : Int) < (↑(List.length a) : Int) then (↑(List.length b) : Int) else (↑(List.length a) : Int)).toNat * (1 : Nat))
      (List.replicate (if (↑(List.length b) : Int) < (↑(List.length a) : Int) then (↑(List.length b) : Int) else (↑(List.length a) : Int)).toNat (0 : Int))
  else none := by kernel_rfl
noncomputable def XmXo_o1e0 (n5 m_0 : Nat) (x_0 : List Int) : St :=
  { tm := [((5 : Nat), AV.s (SV.own (0 : Nat) n5 (1 : Nat)))], hp := [((0 : Nat), { ty := (5 : Nat), n := m_0, row := Row.t (TRow.ints IntKind.u8 x_0) })], nx := (1 : Nat), sz := (31 : Nat) }
theorem XmXo_r1 {β : Type} (fu : Nat) (G : Option St → Option β) (H : Ex → Option St → Option β) (s0 s1 : Str) (n5 : Nat) (v14 v15 : Int) (m_0 : Nat) (x_0 : List Int) : lpR prog g_XmXo fu XmXo_b1 G H (XmXo_s1 s0 s1 n5 v14 v15 m_0 x_0) =
  bif decide (v15 < v14) then
    bif decide ((0 : Int) ≤ v15 ∧ v15 < (↑(List.length s0) : Int)) then
      bif decide ((0 : Int) ≤ v15 ∧ v15 < (↑(List.length s1) : Int)) then
        bif decide ((0 : Int) ≤ v15 ∧ v15 < (↑n5 : Int)) then
          G
            (some
              (XmXo_s1 s0 s1 n5 v14 (IntKind.i64.wrap (v15 + (1 : Int))) m_0
                (x_0.set v15.toNat (bXor IntKind.u8 (↑(List.getD s0 v15.toNat (0 : UInt8)).toNat : Int) (↑(List.getD s1 v15.toNat (0 : UInt8)).toNat : Int)))))
        else none
      else none
    else none
  else H (Ex.exit (0 : Nat)) (some (XmXo_o1e0 n5 m_0 x_0)) := by kernel_rfl
theorem XmXo_c1e0 (fu : Nat) (n5 m_0 : Nat) (x_0 : List Int) : XmXo_k1 fu  (Ex.exit 0) (XmXo_o1e0 n5 m_0 x_0) =
  some (AV.str (List.map b8 x_0)) := by kernel_rfl
noncomputable def g_XmMa : Cg := ⟨⟨gam [], [], noE⟩, []⟩
theorem XmMa_ev (fu : Nat) (a : Str) : afunc prog f_xmd_Mark g_XmMa fu [AV.str a] =
  bif decide ((255 : Int) < (↑(List.length a) : Int)) then some (AV.tup [CV.s (SV.pl (Pl.str [])), CV.s (SV.pl (Pl.int IntKind.i64 (5 : Int)))])
  else
    bif decide (a = []) then some (AV.tup [CV.s (SV.pl (Pl.str [])), CV.s (SV.pl (Pl.int IntKind.i64 (3 : Int)))])
    else
      bif decide (List.length a + (1 : Nat) ≤ (9223372036854775807 : Nat)) then
        some (AV.tup [CV.s (SV.pl (Pl.str (a ++ List.map b8 [IntKind.u8.wrap (↑(List.length a) : Int)]))), CV.s (SV.pl (Pl.int IntKind.i64 (0 : Int)))])
      else none := by kernel_rfl
noncomputable def g_XmOn : Cg := ⟨⟨gam [], [], noE⟩, []⟩
theorem XmOn_ev (fu : Nat) (n : Int) : afunc prog f_xmd_Expand_1 g_XmOn fu [AV.int IntKind.u8 n] =
  some (AV.str (List.map b8 [n])) := by kernel_rfl
noncomputable def g_XmSu (T0 : Type) (R0 : List AV → Option T0) (f0a : T0 → List Int) : Cg := ⟨⟨gam [(n_sha_Sum, ⟨R0, fun t => AV.agg (TRow.ints IntKind.u8 (f0a t)) 64⟩)], [], noE⟩, []⟩
section
variable (T0 : Type) (R0 : List AV → Option T0) (f0a : T0 → List Int)
theorem XmSu_ev (fu : Nat) (ss : List Str) (n : Nat) : afunc prog f_xmd_sum (g_XmSu T0 R0 f0a) fu [AV.s (SV.dat (TRow.strs ss) n (1 : Nat))] =
  (R0 [AV.s (SV.dat (TRow.strs ss) n (1 : Nat))]).bind fun (t : T0) => some (AV.str (List.map b8 (List.take (64 : Nat) (List.drop (0 : Nat) (f0a t))))) := by kernel_rfl
end
noncomputable def g_XmEx (T0 : Type) (R0 : List AV → Option T0) (f0a : T0 → Str) (f0b : T0 → Int) (T1 : Type) (R1 : List AV → Option T1) (f1a : T1 → List UInt8) (T2 : Type) (R2 : List AV → Option T2) (f2a : T2 → List UInt8) (T3 : Type) (R3 : List AV → Option T3) (f3a : T3 → List UInt8) (T4 : Type) (R4 : List AV → Option T4) (f4a : T4 → List UInt8) (T5 : Type) (R5 : List AV → Option T5) (f5a : T5 → List UInt8) : Cg := ⟨⟨gam [(n_xmd_Mark, ⟨R0, fun t => AV.tup [CV.s (SV.pl (Pl.str (f0a t))), CV.s (SV.pl (Pl.int IntKind.i64 (f0b t)))]⟩), (n_xmd_Expand_1, ⟨R1, fun t => AV.str (f1a t)⟩), (n_strings_Repeat, ⟨R2, fun t => AV.str (f2a t)⟩), (n_strings_Join, ⟨R3, fun t => AV.str (f3a t)⟩), (n_xmd_sum, ⟨R4, fun t => AV.str (f4a t)⟩), (n_xmd_Xor, ⟨R5, fun t => AV.str (f5a t)⟩)], [], noE⟩, [(12, [1, 8, 10, 11, 12, 13, 14], [1, 13])]⟩
section
variable (T0 : Type) (R0 : List AV → Option T0) (f0a : T0 → Str) (f0b : T0 → Int) (T1 : Type) (R1 : List AV → Option T1) (f1a : T1 → List UInt8) (T2 : Type) (R2 : List AV → Option T2) (f2a : T2 → List UInt8) (T3 : Type) (R3 : List AV → Option T3) (f3a : T3 → List UInt8) (T4 : Type) (R4 : List AV → Option T4) (f4a : T4 → List UInt8) (T5 : Type) (R5 : List AV → Option T5) (f5a : T5 → List UInt8)
noncomputable def XmEx_s1 (v1 : Int) (s8 : Str) (s11 s12 s13 : List UInt8) (v14 : Int) : St :=
  { tm := [((1 : Nat), AV.int IntKind.i64 v1), ((8 : Nat), AV.str s8), ((10 : Nat), AV.s (SV.clo (85 : Nat) [] [])), ((11 : Nat), AV.str s11), ((12 : Nat), AV.str s12), ((13 : Nat), AV.str s13), ((14 : Nat), AV.int IntKind.u8 v14)], hp := [], nx := (0 : Nat), sz := (74 : Nat) }
noncomputable def XmEx_b1 : Code := bodyL (codeAt [1, 1, 1, 1, 1, 1, 1, 1, 0, 1, 2] (codeF f_xmd_Expand))
noncomputable def XmEx_k1 (fu : Nat) := kAt prog (g_XmEx T0 R0 f0a f0b T1 R1 f1a T2 R2 f2a T3 R3 f3a T4 R4 f4a T5 R5 f5a) fu [1, 1, 1, 1, 1, 1, 1, 1, 0, 1, 2] (codeF f_xmd_Expand) (kFin prog f_xmd_Expand)
noncomputable abbrev XmEx_L1 (fu : Nat) (v1 : Int) (s8 : Str) (s11 s12 s13 : List UInt8) (v14 : Int) := lpA prog (g_XmEx T0 R0 f0a f0b T1 R1 f1a T2 R2 f2a T3 R3 f3a T4 R4 f4a T5 R5 f5a) fu XmEx_b1 (XmEx_k1 T0 R0 f0a f0b T1 R1 f1a T2 R2 f2a T3 R3 f3a T4 R4 f4a T5 R5 f5a fu ) fu (some (XmEx_s1 v1 s8 s11 s12 s13 v14))
theorem XmEx_ev (fu : Nat) (d : Str) (k : Int) (ss : List Str) (n : Nat) : afunc prog f_xmd_Expand (g_XmEx T0 R0 f0a f0b T1 R1 f1a T2 R2 f2a T3 R3 f3a T4 R4 f4a T5 R5 f5a) fu [AV.str d, AV.int IntKind.i64 k, AV.s (SV.dat (TRow.strs ss) n (1 : Nat))] =
  bif decide (k < (1 : Int)) || decide ((16320 : Int) < k) then some (AV.tup [CV.s (SV.pl (Pl.str [])), CV.s (SV.pl (Pl.int IntKind.i64 (2 : Int)))])
  else
    (R0 [AV.str d]).bind fun (t : T0) =>
      bif !decide (f0b t = (0 : Int)) then some (AV.tup [CV.s (SV.pl (Pl.str [])), CV.s (SV.pl (Pl.int IntKind.i64 (f0b t)))])
      else
        (R2 [AV.str [(0 : UInt8)], AV.int IntKind.i64 (128 : Int)]).bind fun (t_1 : T2) =>
          (R3 [AV.s (SV.dat (TRow.strs ss) n (1 : Nat)), AV.str []]).bind fun (t_2 : T3) =>
            (R1 [AV.int IntKind.u8 (IntKind.u8.wrap (bShr IntKind.i64 k (8 : Int)))]).bind fun (t_3 : T1) =>
              (R1 [AV.int IntKind.u8 (IntKind.u8.wrap k)]).bind fun (t_4 : T1) =>
                (R1 [AV.int IntKind.u8 (0 : Int)]).bind fun (t_5 : T1) =>
                  (R4 [AV.s (SV.dat (TRow.strs ([f2a t_1] ++ ([f3a t_2] ++ ([f1a t_3] ++ ([f1a t_4] ++ ([f1a t_5] ++ [f0a t])))))) (6 : Nat) (1 : Nat))]).bind fun (t_6 : T4) =>
                    (R1 [AV.int IntKind.u8 (1 : Int)]).bind fun (t_7 : T1) =>
                      (R4 [AV.s (SV.dat (TRow.strs ([f4a t_6] ++ ([f1a t_7] ++ [f0a t]))) (3 : Nat) (1 : Nat))]).bind fun (t_8 : T4) =>
                        XmEx_L1 T0 R0 f0a f0b T1 R1 f1a T2 R2 f2a T3 R3 f3a T4 R4 f4a T5 R5 f5a fu k (f0a t) (f4a t_6) (f4a t_8) (f4a t_8) (2 : Int) := by kernel_rfl
noncomputable def XmEx_o1e0 (v1 : Int) (s13 : List UInt8) : St :=
  { tm := [((1 : Nat), AV.int IntKind.i64 v1), ((13 : Nat), AV.str s13)], hp := [], nx := (0 : Nat), sz := (74 : Nat) }
theorem XmEx_r1 {β : Type} (fu : Nat) (G : Option St → Option β) (H : Ex → Option St → Option β) (v1 : Int) (s8 : Str) (s11 s12 s13 : List UInt8) (v14 : Int) : lpR prog (g_XmEx T0 R0 f0a f0b T1 R1 f1a T2 R2 f2a T3 R3 f3a T4 R4 f4a T5 R5 f5a) fu XmEx_b1 G H (XmEx_s1 v1 s8 s11 s12 s13 v14) =
  bif decide ((↑s13.length : Int) < v1) then
    (R5 [AV.str s11, AV.str s12]).bind fun (t : T5) =>
      (R1 [AV.int IntKind.u8 v14]).bind fun (t_1 : T1) =>
        (R4 [AV.s (SV.dat (TRow.strs ([f5a t] ++ ([f1a t_1] ++ [s8]))) (3 : Nat) (1 : Nat))]).bind fun (t : T4) =>
          bif decide (s13.length + (f4a t).length ≤ (9223372036854775807 : Nat)) then G (some (XmEx_s1 v1 s8 s11 (f4a t) (s13 ++ f4a t) (IntKind.u8.wrap (v14 + (1 : Int))))) else none
  else H (Ex.exit (0 : Nat)) (some (XmEx_o1e0 v1 s13)) := by kernel_rfl
theorem XmEx_c1e0 (fu : Nat) (v1 : Int) (s13 : List UInt8) : XmEx_k1 T0 R0 f0a f0b T1 R1 f1a T2 R2 f2a T3 R3 f3a T4 R4 f4a T5 R5 f5a fu  (Ex.exit 0) (XmEx_o1e0 v1 s13) =
  bif decide ((0 : Int) ≤ (0 : Int) ∧ (0 : Int) ≤ v1 ∧ v1 ≤ (↑s13.length : Int)) then some (AV.tup [CV.s (SV.pl (Pl.str (sl s13 (0 : Int) v1))), CV.s (SV.pl (Pl.int IntKind.i64 (0 : Int)))]) else none := by kernel_rfl
end
noncomputable def g_XrEx (T0 : Type) (R0 : List AV → Option T0) (f0a : T0 → List UInt8) (T1 : Type) (R1 : List AV → Option T1) (f1a : T1 → List UInt8) : Cg := ⟨⟨gam [(n_opalineref02_Two, ⟨R0, fun t => AV.str (f0a t)⟩), (n_opalineref02_H, ⟨R1, fun t => AV.str (f1a t)⟩)], [], noE⟩, [(7, [1, 7, 8, 9, 10, 11], [1, 10]), (11, [1, 7, 8, 9, 10, 11, 12, 13], [1, 7, 8, 10, 11, 12])]⟩
section
variable (T0 : Type) (R0 : List AV → Option T0) (f0a : T0 → List UInt8) (T1 : Type) (R1 : List AV → Option T1) (f1a : T1 → List UInt8)
noncomputable def XrEx_s1 (v1 : Int) (s7 : Str) (s8 s9 s10 : List UInt8) (v11 : Int) : St :=
  { tm := [((1 : Nat), AV.int IntKind.i64 v1), ((7 : Nat), AV.str s7), ((8 : Nat), AV.str s8), ((9 : Nat), AV.str s9), ((10 : Nat), AV.str s10), ((11 : Nat), AV.int IntKind.i64 v11)], hp := [], nx := (0 : Nat), sz := (75 : Nat) }
noncomputable def XrEx_b1 : Code := bodyL (codeAt [1, 1, 1, 1, 1, 0, 1, 2] (codeF f_opalineref04_Expand))
noncomputable def XrEx_k1 (fu : Nat) := kAt prog (g_XrEx T0 R0 f0a T1 R1 f1a) fu [1, 1, 1, 1, 1, 0, 1, 2] (codeF f_opalineref04_Expand) (kFin prog f_opalineref04_Expand)
noncomputable abbrev XrEx_L1 (fu : Nat) (v1 : Int) (s7 : Str) (s8 s9 s10 : List UInt8) (v11 : Int) := lpA prog (g_XrEx T0 R0 f0a T1 R1 f1a) fu XrEx_b1 (XrEx_k1 T0 R0 f0a T1 R1 f1a fu ) fu (some (XrEx_s1 v1 s7 s8 s9 s10 v11))
theorem XrEx_ev (fu : Nat) (d : Str) (k : Int) (m : Str) : afunc prog f_opalineref04_Expand (g_XrEx T0 R0 f0a T1 R1 f1a) fu [AV.str d, AV.int IntKind.i64 k, AV.str m] =
  bif decide (List.length d + (1 : Nat) ≤ (9223372036854775807 : Nat)) then
    bif decide ((128 : Nat) + List.length m ≤ (9223372036854775807 : Nat)) then
      (R0 [AV.int IntKind.i64 k]).bind fun (t : T0) =>
        bif decide (List.length (List.map b8 (List.replicate (128 : Nat) (0 : Int)) ++ m) + (f0a t).length ≤ (9223372036854775807 : Nat)) then
          bif decide (List.length (List.map b8 (List.replicate (128 : Nat) (0 : Int)) ++ m ++ f0a t) + (1 : Nat) ≤ (9223372036854775807 : Nat)) then
            bif
                decide
                  (List.length (List.map b8 (List.replicate (128 : Nat) (0 : Int)) ++ m ++ f0a t ++ [(0 : UInt8)]) + List.length (d ++ List.map b8 [IntKind.u8.wrap (↑(List.length d) : Int)]) ≤
                    (9223372036854775807 : Nat)) then
              (R1 [AV.str (List.map b8 (List.replicate (128 : Nat) (0 : Int)) ++ m ++ f0a t ++ [(0 : UInt8)] ++ (d ++ List.map b8 [IntKind.u8.wrap (↑(List.length d) : Int)]))]).bind fun (t : T1) =>
                bif decide ((f1a t).length + (1 : Nat) ≤ (9223372036854775807 : Nat)) then
                  bif decide (List.length (f1a t ++ [(1 : UInt8)]) + List.length (d ++ List.map b8 [IntKind.u8.wrap (↑(List.length d) : Int)]) ≤ (9223372036854775807 : Nat)) then
                    (R1 [AV.str (f1a t ++ [(1 : UInt8)] ++ (d ++ List.map b8 [IntKind.u8.wrap (↑(List.length d) : Int)]))]).bind fun (t_1 : T1) =>
                      XrEx_L1 T0 R0 f0a T1 R1 f1a fu k (d ++ List.map b8 [IntKind.u8.wrap (↑(List.length d) : Int)]) (f1a t) (f1a t_1) (f1a t_1) (2 : Int)
                  else none
                else none
            else none
          else none
        else none
    else none
  else none := by kernel_rfl
noncomputable def XrEx_s2 (v1 : Int) (s7 : Str) (s8 s9 s10 : List UInt8) (v11 : Int) (n12 : Nat) (v13 : Int) (m_0 : Nat) (x_0 : List Int) : St :=
  { tm := [((1 : Nat), AV.int IntKind.i64 v1), ((7 : Nat), AV.str s7), ((8 : Nat), AV.str s8), ((9 : Nat), AV.str s9), ((10 : Nat), AV.str s10), ((11 : Nat), AV.int IntKind.i64 v11), ((12 : Nat), AV.s (SV.own (0 : Nat) n12 (1 : Nat))), ((13 : Nat), AV.int IntKind.i64 v13)], hp := [((0 : Nat), { ty := (5 : Nat), n := m_0, row := Row.t (TRow.ints IntKind.u8 x_0) })], nx := (1 : Nat), sz := (75 : Nat) }
noncomputable def XrEx_b2 : Code := bodyL (codeAt [1, 1, 1, 1, 1, 0, 1, 2, 6, 1, 0, 2, 1, 0, 1, 2] (codeF f_opalineref04_Expand))
noncomputable def XrEx_k2 {β : Type} (fu : Nat) (G : Option St → Option β) (H : Ex → Option St → Option β) := kAt prog (g_XrEx T0 R0 f0a T1 R1 f1a) fu [1, 0, 2, 1, 0, 1, 2] XrEx_b1 (kRound (g_XrEx T0 R0 f0a T1 R1 f1a) XrEx_b1 G H)
noncomputable abbrev XrEx_L2 {β : Type} (fu : Nat) (G : Option St → Option β) (H : Ex → Option St → Option β) (v1 : Int) (s7 : Str) (s8 s9 s10 : List UInt8) (v11 : Int) (n12 : Nat) (v13 : Int) (m_0 : Nat) (x_0 : List Int) := lpA prog (g_XrEx T0 R0 f0a T1 R1 f1a) fu XrEx_b2 (XrEx_k2 T0 R0 f0a T1 R1 f1a fu G H) fu (some (XrEx_s2 v1 s7 s8 s9 s10 v11 n12 v13 m_0 x_0))
noncomputable def XrEx_o1e0 (v1 : Int) (s10 : List UInt8) : St :=
  { tm := [((1 : Nat), AV.int IntKind.i64 v1), ((10 : Nat), AV.str s10)], hp := [], nx := (0 : Nat), sz := (75 : Nat) }
theorem XrEx_r1 {β : Type} (fu : Nat) (G : Option St → Option β) (H : Ex → Option St → Option β) (v1 : Int) (s7 : Str) (s8 s9 s10 : List UInt8) (v11 : Int) : lpR prog (g_XrEx T0 R0 f0a T1 R1 f1a) fu XrEx_b1 G H (XrEx_s1 v1 s7 s8 s9 s10 v11) =
  bif decide ((↑s10.length : Int) < v1) then XrEx_L2 T0 R0 f0a T1 R1 f1a fu G H v1 s7 s8 s9 s10 v11 (64 : Nat) (0 : Int) (64 : Nat) (List.replicate (64 : Nat) (0 : Int))
  else H (Ex.exit (0 : Nat)) (some (XrEx_o1e0 v1 s10)) := by kernel_rfl
noncomputable def XrEx_o2e2 (v1 : Int) (s7 : Str) (s8 s10 : List UInt8) (v11 : Int) (n12 m_0 : Nat) (x_0 : List Int) : St :=
  { tm := [((1 : Nat), AV.int IntKind.i64 v1), ((7 : Nat), AV.str s7), ((8 : Nat), AV.str s8), ((10 : Nat), AV.str s10), ((11 : Nat), AV.int IntKind.i64 v11), ((12 : Nat), AV.s (SV.own (0 : Nat) n12 (1 : Nat)))], hp := [((0 : Nat), { ty := (5 : Nat), n := m_0, row := Row.t (TRow.ints IntKind.u8 x_0) })], nx := (1 : Nat), sz := (75 : Nat) }
theorem XrEx_r2 {β : Type} (fu : Nat) (G : Option St → Option β) (H : Ex → Option St → Option β) (v1 : Int) (s7 : Str) (s8 s9 s10 : List UInt8) (v11 : Int) (n12 : Nat) (v13 : Int) (m_0 : Nat) (x_0 : List Int) : lpR prog (g_XrEx T0 R0 f0a T1 R1 f1a) fu XrEx_b2 G H (XrEx_s2 v1 s7 s8 s9 s10 v11 n12 v13 m_0 x_0) =
  bif decide (v13 < (64 : Int)) then
    bif decide ((0 : Int) ≤ v13 ∧ v13 < (↑s8.length : Int)) then
      bif decide ((0 : Int) ≤ v13 ∧ v13 < (↑s9.length : Int)) then
        bif decide ((0 : Int) ≤ v13 ∧ v13 < (↑n12 : Int)) then
          G
            (some
              (XrEx_s2 v1 s7 s8 s9 s10 v11 n12 (IntKind.i64.wrap (v13 + (1 : Int))) m_0
                (x_0.set v13.toNat (bXor IntKind.u8 (↑(s8.getD v13.toNat (0 : UInt8)).toNat : Int) (↑(s9.getD v13.toNat (0 : UInt8)).toNat : Int)))))
        else none
      else none
    else none
  else H (Ex.exit (2 : Nat)) (some (XrEx_o2e2 v1 s7 s8 s10 v11 n12 m_0 x_0)) := by kernel_rfl
theorem XrEx_c1e0 (fu : Nat) (v1 : Int) (s10 : List UInt8) : XrEx_k1 T0 R0 f0a T1 R1 f1a fu  (Ex.exit 0) (XrEx_o1e0 v1 s10) =
  bif decide ((0 : Int) ≤ (0 : Int) ∧ (0 : Int) ≤ v1 ∧ v1 ≤ (↑s10.length : Int)) then some (AV.str (sl s10 (0 : Int) v1)) else none := by kernel_rfl
theorem XrEx_c2e2 {β : Type} (fu : Nat) (G : Option St → Option β) (H : Ex → Option St → Option β) (v1 : Int) (s7 : Str) (s8 s10 : List UInt8) (v11 : Int) (n12 m_0 : Nat) (x_0 : List Int) : XrEx_k2 T0 R0 f0a T1 R1 f1a fu G H (Ex.exit 2) (XrEx_o2e2 v1 s7 s8 s10 v11 n12 m_0 x_0) =
  bif decide ((List.map b8 x_0).length + (1 : Nat) ≤ (9223372036854775807 : Nat)) then
    bif decide (List.length (List.map b8 x_0 ++ List.map b8 [IntKind.u8.wrap v11]) + List.length s7 ≤ (9223372036854775807 : Nat)) then
      (R1 [AV.str (List.map b8 x_0 ++ List.map b8 [IntKind.u8.wrap v11] ++ s7)]).bind fun (t : T1) =>
        bif decide (s10.length + (f1a t).length ≤ (9223372036854775807 : Nat)) then G (some (XrEx_s1 v1 s7 s8 (f1a t) (s10 ++ f1a t) (IntKind.i64.wrap (v11 + (1 : Int))))) else none
    else none
  else none := by kernel_rfl
end
noncomputable def g_XmAw (T0 : Type) (R0 : List AV → Option T0) (f0a : T0 → Str) (f0b : T0 → Int) (T1 : Type) (R1 : List AV → Option T1) (T2 : Type) (R2 : List AV → Option T2) (f2a : T2 → List UInt8) : Cg := ⟨⟨gam [(n_xmd_Expand, ⟨R0, fun t => AV.tup [CV.s (SV.pl (Pl.str (f0a t))), CV.s (SV.pl (Pl.int IntKind.i64 (f0b t)))]⟩), (n_opalinelaw02_Awake, ⟨R1, fun t => AV.bool (true)⟩), (n_opalineref04_Expand, ⟨R2, fun t => AV.str (f2a t)⟩)], [], noE⟩, []⟩
section
variable (T0 : Type) (R0 : List AV → Option T0) (f0a : T0 → Str) (f0b : T0 → Int) (T1 : Type) (R1 : List AV → Option T1) (T2 : Type) (R2 : List AV → Option T2) (f2a : T2 → List UInt8)
theorem XmAw_ev (fu : Nat) : afunc prog f_opalinelaw04_awake (g_XmAw T0 R0 f0a f0b T1 R1 T2 R2 f2a) fu [] =
  (R0
        [AV.str [(109 : UInt8), (97 : UInt8), (114 : UInt8), (107 : UInt8)], AV.int IntKind.i64 (64 : Int),
          AV.s (SV.dat (TRow.strs [[(97 : UInt8), (98 : UInt8), (99 : UInt8)]]) (1 : Nat) (1 : Nat))]).bind
    fun (t : T0) =>
    (R1 []).bind fun (t_1 : T1) =>
      bif decide (f0b t = (0 : Int)) then
        (R2 [AV.str [(109 : UInt8), (97 : UInt8), (114 : UInt8), (107 : UInt8)], AV.int IntKind.i64 (64 : Int), AV.str [(97 : UInt8), (98 : UInt8), (99 : UInt8)]]).bind fun (t_2 : T2) =>
          some (AV.bool (decide (f0a t = f2a t_2)))
      else some (AV.bool false) := by kernel_rfl
end
noncomputable def g_XmAb (T0 : Type) (R0 : List AV → Option T0) : Cg := ⟨⟨gam [(n_opalinelaw04_awake, ⟨R0, fun t => AV.bool (true)⟩)], [], noE⟩, []⟩
section
variable (T0 : Type) (R0 : List AV → Option T0)
theorem XmAb_ev (fu : Nat) : afunc prog f_opalinelaw04_Awake (g_XmAb T0 R0) fu [] =
  (R0 []).bind fun (t : T0) => some (AV.bool true) := by kernel_rfl
end
noncomputable def g_XmLX (T0 : Type) (R0 : List AV → Option T0) (T1 : Type) (R1 : List AV → Option T1) (f1a : T1 → List UInt8) : Cg := ⟨⟨gam [(n_opalinelaw04_awake, ⟨R0, fun t => AV.bool (true)⟩), (n_xmd_Xor, ⟨R1, fun t => AV.str (f1a t)⟩)], [], noE⟩, [(11, [0, 1, 5, 6, 28, 29], [0, 1, 4, 5, 6])]⟩
section
variable (T0 : Type) (R0 : List AV → Option T0) (T1 : Type) (R1 : List AV → Option T1) (f1a : T1 → List UInt8)
noncomputable def XmLX_s1 (s0 s1 : Str) (s5 : List UInt8) (v6 v28 v29 : Int) : St :=
  { tm := [((0 : Nat), AV.str s0), ((1 : Nat), AV.str s1), ((5 : Nat), AV.str s5), ((6 : Nat), AV.int IntKind.i64 v6), ((28 : Nat), AV.int IntKind.i64 v28), ((29 : Nat), AV.int IntKind.i64 v29)], hp := [], nx := (0 : Nat), sz := (63 : Nat) }
noncomputable def XmLX_b1 : Code := bodyL (codeAt [1, 1, 1, 1, 1, 1, 0, 1, 2] (codeF f_opalinelaw04_XmdXors))
noncomputable def XmLX_k1 (fu : Nat) := kAt prog (g_XmLX T0 R0 T1 R1 f1a) fu [1, 1, 1, 1, 1, 1, 0, 1, 2] (codeF f_opalinelaw04_XmdXors) (kFin prog f_opalinelaw04_XmdXors)
noncomputable abbrev XmLX_L1 (fu : Nat) (s0 s1 : Str) (s5 : List UInt8) (v6 v28 v29 : Int) := lpA prog (g_XmLX T0 R0 T1 R1 f1a) fu XmLX_b1 (XmLX_k1 T0 R0 T1 R1 f1a fu ) fu (some (XmLX_s1 s0 s1 s5 v6 v28 v29))
theorem XmLX_ev (fu : Nat) (a b : Str) : afunc prog f_opalinelaw04_XmdXors (g_XmLX T0 R0 T1 R1 f1a) fu [AV.str a, AV.str b] =
  (R0 []).bind fun (t : T0) =>
    bif decide ((1000 : Int) < if (↑(List.length b) : Int) > (↑(List.length a) : Int) then (↑(List.length b) : Int) else (↑(List.length a) : Int)) then some (AV.bool true)
    else
      (R1 [AV.str a, AV.str b]).bind fun (t : T1) =>
        bif !decide ((↑(f1a t).length : Int) = if (↑(List.length b) : Int) < (↑(List.length a) : Int) then (↑(List.length b) : Int) else (↑(List.length a) : Int)) then some (AV.bool false)
        else
          XmLX_L1 T0 R0 T1 R1 f1a fu a b (f1a t) (if (↑(List.length b) : Int) < (↑(List.length a) : Int) then (↑(List.length b) : Int) else (↑(List.length a) : Int))
            (if (↑(List.length b) : Int) < (↑(List.length a) : Int) then (↑(List.length b) : Int) else (↑(List.length a) : Int)) (0 : Int) := by kernel_rfl
noncomputable def XmLX_o1r (s0 s1 : Str) (b4 : Bool) (s5 : List UInt8) (v6 : Int) : St :=
  { tm := [((0 : Nat), AV.str s0), ((1 : Nat), AV.str s1), ((4 : Nat), AV.bool b4), ((5 : Nat), AV.str s5), ((6 : Nat), AV.int IntKind.i64 v6)], hp := [], nx := (0 : Nat), sz := (63 : Nat) }
noncomputable def XmLX_o1e0 (s0 s1 : Str) (s5 : List UInt8) (v6 : Int) : St :=
  { tm := [((0 : Nat), AV.str s0), ((1 : Nat), AV.str s1), ((4 : Nat), AV.s SV.junk), ((5 : Nat), AV.str s5), ((6 : Nat), AV.int IntKind.i64 v6)], hp := [], nx := (0 : Nat), sz := (63 : Nat) }
theorem XmLX_r1 {β : Type} (fu : Nat) (G : Option St → Option β) (H : Ex → Option St → Option β) (s0 s1 : Str) (s5 : List UInt8) (v6 v28 v29 : Int) : lpR prog (g_XmLX T0 R0 T1 R1 f1a) fu XmLX_b1 G H (XmLX_s1 s0 s1 s5 v6 v28 v29) =
  bif decide (v29 < v28) then
    bif decide ((0 : Int) ≤ v29 ∧ v29 < (↑s5.length : Int)) then
      bif decide ((0 : Int) ≤ v29 ∧ v29 < (↑(List.length s0) : Int)) then
        bif decide ((0 : Int) ≤ v29 ∧ v29 < (↑(List.length s1) : Int)) then
          bif !decide ((↑(s5.getD v29.toNat (0 : UInt8)).toNat : Int) = bXor IntKind.u8 (↑(List.getD s0 v29.toNat (0 : UInt8)).toNat : Int) (↑(List.getD s1 v29.toNat (0 : UInt8)).toNat : Int)) then
            H Ex.ret (some (XmLX_o1r s0 s1 false s5 v6))
          else G (some (XmLX_s1 s0 s1 s5 v6 v28 (IntKind.i64.wrap (v29 + (1 : Int)))))
        else none
      else none
    else none
  else H (Ex.exit (0 : Nat)) (some (XmLX_o1e0 s0 s1 s5 v6)) := by kernel_rfl
theorem XmLX_c1r (fu : Nat) (s0 s1 : Str) (b4 : Bool) (s5 : List UInt8) (v6 : Int) : XmLX_k1 T0 R0 T1 R1 f1a fu  Ex.ret (XmLX_o1r s0 s1 b4 s5 v6) =
  some (AV.bool b4) := by kernel_rfl
theorem XmLX_c1e0 (fu : Nat) (s0 s1 : Str) (s5 : List UInt8) (v6 : Int) : XmLX_k1 T0 R0 T1 R1 f1a fu  (Ex.exit 0) (XmLX_o1e0 s0 s1 s5 v6) =
  (R1 [AV.str s5, AV.str s1]).bind fun (t : T1) =>
    bif decide ((0 : Int) ≤ (0 : Int) ∧ (0 : Int) ≤ v6 ∧ v6 ≤ (↑(List.length s0) : Int)) then
      bif decide (f1a t = sl s0 (0 : Int) v6) then
        (R1 [AV.str s1, AV.str s0]).bind fun (t : T1) => bif decide (f1a t = s5) then (R1 [AV.str s0, AV.str []]).bind fun (t : T1) => some (AV.bool (decide (f1a t = []))) else some (AV.bool false)
      else some (AV.bool false)
    else none := by kernel_rfl
end
noncomputable def g_XmLP (T0 : Type) (R0 : List AV → Option T0) (T1 : Type) (R1 : List AV → Option T1) (f1a : T1 → Str) (f1b : T1 → Int) : Cg := ⟨⟨gam [(n_opalinelaw04_awake, ⟨R0, fun t => AV.bool (true)⟩), (n_xmd_Expand, ⟨R1, fun t => AV.tup [CV.s (SV.pl (Pl.str (f1a t))), CV.s (SV.pl (Pl.int IntKind.i64 (f1b t)))]⟩)], [], noE⟩, []⟩
section
variable (T0 : Type) (R0 : List AV → Option T0) (T1 : Type) (R1 : List AV → Option T1) (f1a : T1 → Str) (f1b : T1 → Int)
theorem XmLP_ev (fu : Nat) (d m : Str) (i n : Int) : afunc prog f_opalinelaw04_XmdParts (g_XmLP T0 R0 T1 R1 f1a f1b) fu [AV.str d, AV.str m, AV.int IntKind.u16 i, AV.int IntKind.u8 n] =
  (R0 []).bind fun (t : T0) =>
    bif decide ((300 : Int) < (↑(List.length m) : Int)) then some (AV.bool true)
    else
      bif decide ((255 : Int) < (↑(List.length d) : Int)) || decide (d = []) || decide (n = (0 : Int)) then some (AV.bool true)
      else
        bif decide (IntKind.i64.wrap ((↑(List.length m) : Int) + (1 : Int)) = (0 : Int)) then none
        else
          (R1 [AV.str d, AV.int IntKind.i64 (IntKind.i64.wrap n), AV.s (SV.dat (TRow.strs [m]) (1 : Nat) (1 : Nat))]).bind fun (t : T1) =>
            bif
                decide
                  ((0 : Int) ≤ (0 : Int) ∧
                    (0 : Int) ≤ (IntKind.i64.wrap i).tmod (IntKind.i64.wrap ((↑(List.length m) : Int) + (1 : Int))) ∧
                      (IntKind.i64.wrap i).tmod (IntKind.i64.wrap ((↑(List.length m) : Int) + (1 : Int))) ≤ (↑(List.length m) : Int)) then
              bif
                  decide
                    ((0 : Int) ≤ (IntKind.i64.wrap i).tmod (IntKind.i64.wrap ((↑(List.length m) : Int) + (1 : Int))) ∧
                      (IntKind.i64.wrap i).tmod (IntKind.i64.wrap ((↑(List.length m) : Int) + (1 : Int))) ≤ (↑(List.length m) : Int) ∧ (↑(List.length m) : Int) ≤ (↑(List.length m) : Int)) then
                (R1
                      [AV.str d, AV.int IntKind.i64 (IntKind.i64.wrap n),
                        AV.s
                          (SV.dat
                            (TRow.strs
                              ([sl m (0 : Int) ((IntKind.i64.wrap i).tmod (IntKind.i64.wrap ((↑(List.length m) : Int) + (1 : Int))))] ++
                                ([[]] ++ [sl m ((IntKind.i64.wrap i).tmod (IntKind.i64.wrap ((↑(List.length m) : Int) + (1 : Int)))) (↑(List.length m) : Int)])))
                            (3 : Nat) (1 : Nat))]).bind
                  fun (t_1 : T1) =>
                  bif decide (f1b t = (0 : Int)) && decide (f1b t_1 = (0 : Int)) && decide (f1a t = f1a t_1) then some (AV.bool (decide ((↑(List.length (f1a t)) : Int) = IntKind.i64.wrap n)))
                  else some (AV.bool false)
              else none
            else none := by kernel_rfl
end
noncomputable def g_HxEx (T0 : Type) (R0 : List AV → Option T0) (f0a : T0 → List UInt8) (T1 : Type) (R1 : List AV → Option T1) (f1a : T1 → List UInt8) : Cg := ⟨⟨gam [(n_hmac_With, ⟨R0, fun t => AV.s (SV.clo n_hmac_keyed_sum [Pl.str (f0a t)] [])⟩), (n_hmac_keyed_sum, ⟨R1, fun t => AV.str (f1a t)⟩)], [], noE⟩, [(9, [1, 2, 8, 9, 10, 11], [2, 9])]⟩
section
variable (T0 : Type) (R0 : List AV → Option T0) (f0a : T0 → List UInt8) (T1 : Type) (R1 : List AV → Option T1) (f1a : T1 → List UInt8)
noncomputable def HxEx_s1 (s1 : Str) (v2 : Int) (s8_0 s9 s10 : List UInt8) (v11 : Int) : St :=
  { tm := [((1 : Nat), AV.str s1), ((2 : Nat), AV.int IntKind.i64 v2), ((8 : Nat), AV.s (SV.clo (136 : Nat) [Pl.str s8_0] [])), ((9 : Nat), AV.str s9), ((10 : Nat), AV.str s10), ((11 : Nat), AV.int IntKind.u8 v11)], hp := [], nx := (0 : Nat), sz := (40 : Nat) }
noncomputable def HxEx_b1 : Code := bodyL (codeAt [1, 1, 1, 1, 0, 1, 2] (codeF f_hmac_Expand))
noncomputable def HxEx_k1 (fu : Nat) := kAt prog (g_HxEx T0 R0 f0a T1 R1 f1a) fu [1, 1, 1, 1, 0, 1, 2] (codeF f_hmac_Expand) (kFin prog f_hmac_Expand)
noncomputable abbrev HxEx_L1 (fu : Nat) (s1 : Str) (v2 : Int) (s8_0 s9 s10 : List UInt8) (v11 : Int) := lpA prog (g_HxEx T0 R0 f0a T1 R1 f1a) fu HxEx_b1 (HxEx_k1 T0 R0 f0a T1 R1 f1a fu ) fu (some (HxEx_s1 s1 v2 s8_0 s9 s10 v11))
theorem HxEx_ev (fu : Nat) (k i : Str) (n : Int) : afunc prog f_hmac_Expand (g_HxEx T0 R0 f0a T1 R1 f1a) fu [AV.str k, AV.str i, AV.int IntKind.i64 n] =
  bif decide (n < (0 : Int)) then some (AV.tup [CV.s (SV.pl (Pl.str [])), CV.s (SV.pl (Pl.int IntKind.i64 (2 : Int)))])
  else
    bif decide ((16320 : Int) < n) then some (AV.tup [CV.s (SV.pl (Pl.str [])), CV.s (SV.pl (Pl.int IntKind.i64 (5 : Int)))])
    else (R0 [AV.str k]).bind fun (t : T0) => HxEx_L1 T0 R0 f0a T1 R1 f1a fu i n (f0a t) [] [] (1 : Int) := by kernel_rfl
noncomputable def HxEx_o1e1 (v2 : Int) (s9 : List UInt8) : St :=
  { tm := [((2 : Nat), AV.int IntKind.i64 v2), ((9 : Nat), AV.str s9)], hp := [], nx := (0 : Nat), sz := (40 : Nat) }
theorem HxEx_r1 {β : Type} (fu : Nat) (G : Option St → Option β) (H : Ex → Option St → Option β) (s1 : Str) (v2 : Int) (s8_0 s9 s10 : List UInt8) (v11 : Int) : lpR prog (g_HxEx T0 R0 f0a T1 R1 f1a) fu HxEx_b1 G H (HxEx_s1 s1 v2 s8_0 s9 s10 v11) =
  bif decide ((↑s9.length : Int) < v2) then
    (R1 [AV.str s8_0, AV.s (SV.dat (TRow.strs ([s10] ++ ([s1] ++ [List.map b8 [v11]]))) (3 : Nat) (1 : Nat))]).bind fun (t : T1) =>
      bif decide (s9.length + (f1a t).length ≤ (9223372036854775807 : Nat)) then G (some (HxEx_s1 s1 v2 s8_0 (s9 ++ f1a t) (f1a t) (IntKind.u8.wrap (v11 + (1 : Int))))) else none
  else H (Ex.exit (1 : Nat)) (some (HxEx_o1e1 v2 s9)) := by kernel_rfl
theorem HxEx_c1e1 (fu : Nat) (v2 : Int) (s9 : List UInt8) : HxEx_k1 T0 R0 f0a T1 R1 f1a fu  (Ex.exit 1) (HxEx_o1e1 v2 s9) =
  bif decide ((0 : Int) ≤ (0 : Int) ∧ (0 : Int) ≤ v2 ∧ v2 ≤ (↑s9.length : Int)) then some (AV.tup [CV.s (SV.pl (Pl.str (sl s9 (0 : Int) v2))), CV.s (SV.pl (Pl.int IntKind.i64 (0 : Int)))]) else none := by kernel_rfl
end
noncomputable def g_HxLa (T0 : Type) (R0 : List AV → Option T0) (f0a : T0 → Str) (f0b : T0 → Int) : Cg := ⟨⟨gam [(n_hmac_Expand, ⟨R0, fun t => AV.tup [CV.s (SV.pl (Pl.str (f0a t))), CV.s (SV.pl (Pl.int IntKind.i64 (f0b t)))]⟩)], [], noE⟩, []⟩
section
variable (T0 : Type) (R0 : List AV → Option T0) (f0a : T0 → Str) (f0b : T0 → Int)
theorem HxLa_ev (fu : Nat) (k l c : Str) (n : Int) : afunc prog f_hmac_Label (g_HxLa T0 R0 f0a f0b) fu [AV.str k, AV.str l, AV.str c, AV.int IntKind.i64 n] =
  bif decide ((7 : Nat) + List.length l ≤ (9223372036854775807 : Nat)) then
    bif decide ((255 : Int) < (↑(List.length ([(79 : UInt8), (80 : UInt8), (65 : UInt8), (81 : UInt8), (85 : UInt8), (69 : UInt8), (45 : UInt8)] ++ l)) : Int)) then
      some (AV.tup [CV.s (SV.pl (Pl.str [])), CV.s (SV.pl (Pl.int IntKind.i64 (5 : Int)))])
    else
      bif decide ((255 : Int) < (↑(List.length c) : Int)) then some (AV.tup [CV.s (SV.pl (Pl.str [])), CV.s (SV.pl (Pl.int IntKind.i64 (5 : Int)))])
      else
        bif decide ((3 : Nat) + List.length ([(79 : UInt8), (80 : UInt8), (65 : UInt8), (81 : UInt8), (85 : UInt8), (69 : UInt8), (45 : UInt8)] ++ l) ≤ (9223372036854775807 : Nat)) then
          bif
              decide
                (List.length
                      (List.map b8
                          ([IntKind.u8.wrap (bShr IntKind.i64 n (8 : Int))] ++
                            ([IntKind.u8.wrap n] ++
                              [IntKind.u8.wrap (↑(List.length ([(79 : UInt8), (80 : UInt8), (65 : UInt8), (81 : UInt8), (85 : UInt8), (69 : UInt8), (45 : UInt8)] ++ l)) : Int)])) ++
                        ([(79 : UInt8), (80 : UInt8), (65 : UInt8), (81 : UInt8), (85 : UInt8), (69 : UInt8), (45 : UInt8)] ++ l)) +
                    (1 : Nat) ≤
                  (9223372036854775807 : Nat)) then
            bif
                decide
                  (List.length
                        (List.map b8
                              ([IntKind.u8.wrap (bShr IntKind.i64 n (8 : Int))] ++
                                ([IntKind.u8.wrap n] ++
                                  [IntKind.u8.wrap (↑(List.length ([(79 : UInt8), (80 : UInt8), (65 : UInt8), (81 : UInt8), (85 : UInt8), (69 : UInt8), (45 : UInt8)] ++ l)) : Int)])) ++
                            ([(79 : UInt8), (80 : UInt8), (65 : UInt8), (81 : UInt8), (85 : UInt8), (69 : UInt8), (45 : UInt8)] ++ l) ++
                          List.map b8 [IntKind.u8.wrap (↑(List.length c) : Int)]) +
                      List.length c ≤
                    (9223372036854775807 : Nat)) then
              (R0
                    [AV.str k,
                      AV.str
                        (List.map b8
                                ([IntKind.u8.wrap (bShr IntKind.i64 n (8 : Int))] ++
                                  ([IntKind.u8.wrap n] ++
                                    [IntKind.u8.wrap (↑(List.length ([(79 : UInt8), (80 : UInt8), (65 : UInt8), (81 : UInt8), (85 : UInt8), (69 : UInt8), (45 : UInt8)] ++ l)) : Int)])) ++
                              ([(79 : UInt8), (80 : UInt8), (65 : UInt8), (81 : UInt8), (85 : UInt8), (69 : UInt8), (45 : UInt8)] ++ l) ++
                            List.map b8 [IntKind.u8.wrap (↑(List.length c) : Int)] ++
                          c),
                      AV.int IntKind.i64 n]).bind
                fun (t : T0) => some (AV.tup [CV.s (SV.pl (Pl.str (f0a t))), CV.s (SV.pl (Pl.int IntKind.i64 (f0b t)))])
            else none
          else none
        else none
  else none := by kernel_rfl
end
noncomputable def g_HxSe (T0 : Type) (R0 : List AV → Option T0) (f0a : T0 → Str) (f0b : T0 → Int) : Cg := ⟨⟨gam [(n_hmac_Label, ⟨R0, fun t => AV.tup [CV.s (SV.pl (Pl.str (f0a t))), CV.s (SV.pl (Pl.int IntKind.i64 (f0b t)))]⟩)], [], noE⟩, []⟩
section
variable (T0 : Type) (R0 : List AV → Option T0) (f0a : T0 → Str) (f0b : T0 → Int)
theorem HxSe_ev (fu : Nat) (k l c : Str) : afunc prog f_hmac_Secret (g_HxSe T0 R0 f0a f0b) fu [AV.str k, AV.str l, AV.str c] =
  (R0 [AV.str k, AV.str l, AV.str c, AV.int IntKind.i64 (64 : Int)]).bind fun (t : T0) => some (AV.str (f0a t)) := by kernel_rfl
end
noncomputable def g_HxRE (T0 : Type) (R0 : List AV → Option T0) (f0a : T0 → List UInt8) : Cg := ⟨⟨gam [(n_opalineref03_Sum, ⟨R0, fun t => AV.str (f0a t)⟩)], [], noE⟩, [(4, [0, 1, 2, 7, 8, 9], [2, 7])]⟩
section
variable (T0 : Type) (R0 : List AV → Option T0) (f0a : T0 → List UInt8)
noncomputable def HxRE_s1 (s0 s1 : Str) (v2 : Int) (s7 s8 : List UInt8) (v9 : Int) : St :=
  { tm := [((0 : Nat), AV.str s0), ((1 : Nat), AV.str s1), ((2 : Nat), AV.int IntKind.i64 v2), ((7 : Nat), AV.str s7), ((8 : Nat), AV.str s8), ((9 : Nat), AV.int IntKind.i64 v9)], hp := [], nx := (0 : Nat), sz := (32 : Nat) }
noncomputable def HxRE_b1 : Code := bodyL (codeAt [1, 1, 0, 1, 2] (codeF f_opalineref03_Expand))
noncomputable def HxRE_k1 (fu : Nat) := kAt prog (g_HxRE T0 R0 f0a) fu [1, 1, 0, 1, 2] (codeF f_opalineref03_Expand) (kFin prog f_opalineref03_Expand)
noncomputable abbrev HxRE_L1 (fu : Nat) (s0 s1 : Str) (v2 : Int) (s7 s8 : List UInt8) (v9 : Int) := lpA prog (g_HxRE T0 R0 f0a) fu HxRE_b1 (HxRE_k1 T0 R0 f0a fu ) fu (some (HxRE_s1 s0 s1 v2 s7 s8 v9))
theorem HxRE_ev (fu : Nat) (k i : Str) (n : Int) : afunc prog f_opalineref03_Expand (g_HxRE T0 R0 f0a) fu [AV.str k, AV.str i, AV.int IntKind.i64 n] =
  HxRE_L1 T0 R0 f0a fu k i n [] [] (1 : Int) := by kernel_rfl
noncomputable def HxRE_o1e0 (v2 : Int) (s7 : List UInt8) : St :=
  { tm := [((2 : Nat), AV.int IntKind.i64 v2), ((7 : Nat), AV.str s7)], hp := [], nx := (0 : Nat), sz := (32 : Nat) }
theorem HxRE_r1 {β : Type} (fu : Nat) (G : Option St → Option β) (H : Ex → Option St → Option β) (s0 s1 : Str) (v2 : Int) (s7 s8 : List UInt8) (v9 : Int) : lpR prog (g_HxRE T0 R0 f0a) fu HxRE_b1 G H (HxRE_s1 s0 s1 v2 s7 s8 v9) =
  bif decide ((↑s7.length : Int) < v2) then
    bif decide (s8.length + List.length s1 ≤ (9223372036854775807 : Nat)) then
      bif decide (List.length (s8 ++ s1) + (1 : Nat) ≤ (9223372036854775807 : Nat)) then
        (R0 [AV.str s0, AV.str (s8 ++ s1 ++ List.map b8 [IntKind.u8.wrap v9])]).bind fun (t : T0) =>
          bif decide (s7.length + (f0a t).length ≤ (9223372036854775807 : Nat)) then G (some (HxRE_s1 s0 s1 v2 (s7 ++ f0a t) (f0a t) (IntKind.i64.wrap (v9 + (1 : Int))))) else none
      else none
    else none
  else H (Ex.exit (0 : Nat)) (some (HxRE_o1e0 v2 s7)) := by kernel_rfl
theorem HxRE_c1e0 (fu : Nat) (v2 : Int) (s7 : List UInt8) : HxRE_k1 T0 R0 f0a fu  (Ex.exit 0) (HxRE_o1e0 v2 s7) =
  bif decide ((0 : Int) ≤ (0 : Int) ∧ (0 : Int) ≤ v2 ∧ v2 ≤ (↑s7.length : Int)) then some (AV.str (sl s7 (0 : Int) v2)) else none := by kernel_rfl
end
noncomputable def g_HxRL (T0 : Type) (R0 : List AV → Option T0) (f0a : T0 → List UInt8) (T1 : Type) (R1 : List AV → Option T1) (f1a : T1 → List UInt8) : Cg := ⟨⟨gam [(n_opalineref02_Two, ⟨R0, fun t => AV.str (f0a t)⟩), (n_opalineref03_Expand, ⟨R1, fun t => AV.str (f1a t)⟩)], [], noE⟩, []⟩
section
variable (T0 : Type) (R0 : List AV → Option T0) (f0a : T0 → List UInt8) (T1 : Type) (R1 : List AV → Option T1) (f1a : T1 → List UInt8)
theorem HxRL_ev (fu : Nat) (k l c : Str) (n : Int) : afunc prog f_opalineref03_Label (g_HxRL T0 R0 f0a T1 R1 f1a) fu [AV.str k, AV.str l, AV.str c, AV.int IntKind.i64 n] =
  bif decide ((7 : Nat) + List.length l ≤ (9223372036854775807 : Nat)) then
    (R0 [AV.int IntKind.i64 n]).bind fun (t : T0) =>
      bif decide ((f0a t).length + (1 : Nat) ≤ (9223372036854775807 : Nat)) then
        bif
            decide
              (List.length (f0a t ++ List.map b8 [IntKind.u8.wrap (↑(List.length ([(79 : UInt8), (80 : UInt8), (65 : UInt8), (81 : UInt8), (85 : UInt8), (69 : UInt8), (45 : UInt8)] ++ l)) : Int)]) +
                  List.length ([(79 : UInt8), (80 : UInt8), (65 : UInt8), (81 : UInt8), (85 : UInt8), (69 : UInt8), (45 : UInt8)] ++ l) ≤
                (9223372036854775807 : Nat)) then
          bif
              decide
                (List.length
                      (f0a t ++ List.map b8 [IntKind.u8.wrap (↑(List.length ([(79 : UInt8), (80 : UInt8), (65 : UInt8), (81 : UInt8), (85 : UInt8), (69 : UInt8), (45 : UInt8)] ++ l)) : Int)] ++
                        ([(79 : UInt8), (80 : UInt8), (65 : UInt8), (81 : UInt8), (85 : UInt8), (69 : UInt8), (45 : UInt8)] ++ l)) +
                    (1 : Nat) ≤
                  (9223372036854775807 : Nat)) then
            bif
                decide
                  (List.length
                        (f0a t ++ List.map b8 [IntKind.u8.wrap (↑(List.length ([(79 : UInt8), (80 : UInt8), (65 : UInt8), (81 : UInt8), (85 : UInt8), (69 : UInt8), (45 : UInt8)] ++ l)) : Int)] ++
                            ([(79 : UInt8), (80 : UInt8), (65 : UInt8), (81 : UInt8), (85 : UInt8), (69 : UInt8), (45 : UInt8)] ++ l) ++
                          List.map b8 [IntKind.u8.wrap (↑(List.length c) : Int)]) +
                      List.length c ≤
                    (9223372036854775807 : Nat)) then
              (R1
                    [AV.str k,
                      AV.str
                        (f0a t ++ List.map b8 [IntKind.u8.wrap (↑(List.length ([(79 : UInt8), (80 : UInt8), (65 : UInt8), (81 : UInt8), (85 : UInt8), (69 : UInt8), (45 : UInt8)] ++ l)) : Int)] ++
                              ([(79 : UInt8), (80 : UInt8), (65 : UInt8), (81 : UInt8), (85 : UInt8), (69 : UInt8), (45 : UInt8)] ++ l) ++
                            List.map b8 [IntKind.u8.wrap (↑(List.length c) : Int)] ++
                          c),
                      AV.int IntKind.i64 n]).bind
                fun (t : T1) => some (AV.str (f1a t))
            else none
          else none
        else none
      else none
  else none := by kernel_rfl
end
noncomputable def g_HxAw (T0 : Type) (R0 : List AV → Option T0) : Cg := ⟨⟨gam [(n_opalinelaw03_awake, ⟨R0, fun t => AV.bool (true)⟩)], [], noE⟩, []⟩
section
variable (T0 : Type) (R0 : List AV → Option T0)
theorem HxAw_ev (fu : Nat) : afunc prog f_opalinelaw03_Awake (g_HxAw T0 R0) fu [] =
  (R0 []).bind fun (t : T0) => some (AV.bool true) := by kernel_rfl
end
noncomputable def g_HxLE (T0 : Type) (R0 : List AV → Option T0) (T1 : Type) (R1 : List AV → Option T1) (f1a : T1 → Str) (f1b : T1 → Int) (T2 : Type) (R2 : List AV → Option T2) (f2a : T2 → Str) (f2b : T2 → Int) (T3 : Type) (R3 : List AV → Option T3) (f3a : T3 → List UInt8) (T4 : Type) (R4 : List AV → Option T4) (f4a : T4 → List UInt8) (T5 : Type) (R5 : List AV → Option T5) (f5a : T5 → List UInt8) : Cg := ⟨⟨gam [(n_opalinelaw03_awake, ⟨R0, fun t => AV.bool (true)⟩), (n_hmac_Expand, ⟨R1, fun t => AV.tup [CV.s (SV.pl (Pl.str (f1a t))), CV.s (SV.pl (Pl.int IntKind.i64 (f1b t)))]⟩), (n_hmac_Label, ⟨R2, fun t => AV.tup [CV.s (SV.pl (Pl.str (f2a t))), CV.s (SV.pl (Pl.int IntKind.i64 (f2b t)))]⟩), (n_opalineref03_Expand, ⟨R3, fun t => AV.str (f3a t)⟩), (n_hmac_Secret, ⟨R4, fun t => AV.str (f4a t)⟩), (n_opalineref03_Label, ⟨R5, fun t => AV.str (f5a t)⟩)], [], noE⟩, []⟩
section
variable (T0 : Type) (R0 : List AV → Option T0) (T1 : Type) (R1 : List AV → Option T1) (f1a : T1 → Str) (f1b : T1 → Int) (T2 : Type) (R2 : List AV → Option T2) (f2a : T2 → Str) (f2b : T2 → Int) (T3 : Type) (R3 : List AV → Option T3) (f3a : T3 → List UInt8) (T4 : Type) (R4 : List AV → Option T4) (f4a : T4 → List UInt8) (T5 : Type) (R5 : List AV → Option T5) (f5a : T5 → List UInt8)
theorem HxLE_ev (fu : Nat) (k i c : Str) (n : Int) : afunc prog f_opalinelaw03_HmacExpands (g_HxLE T0 R0 T1 R1 f1a f1b T2 R2 f2a f2b T3 R3 f3a T4 R4 f4a T5 R5 f5a) fu [AV.str k, AV.str i, AV.str c, AV.int IntKind.i64 n] =
  (R0 []).bind fun (t : T0) =>
    bif
        decide
            ((300 : Int) <
              if (↑(List.length c) : Int) > if (↑(List.length i) : Int) > (↑(List.length k) : Int) then (↑(List.length i) : Int) else (↑(List.length k) : Int) then (↑(List.length c) : Int)
              else if (↑(List.length i) : Int) > (↑(List.length k) : Int) then (↑(List.length i) : Int) else (↑(List.length k) : Int)) ==
          false then
      bif decide ((1000 : Int) < n) && decide (n ≤ (16320 : Int)) then some (AV.bool true)
      else
        (R1 [AV.str k, AV.str i, AV.int IntKind.i64 n]).bind fun (t : T1) =>
          (R2 [AV.str k, AV.str i, AV.str c, AV.int IntKind.i64 n]).bind fun (t_1 : T2) =>
            bif decide (n < (0 : Int)) then
              bif !decide (f1b t = (2 : Int)) || !decide (f1a t = []) then some (AV.bool false)
              else
                bif decide ((248 : Int) < (↑(List.length i) : Int)) then
                  bif decide (f2b t_1 = (5 : Int)) && decide (f2a t_1 = []) then (R4 [AV.str k, AV.str i, AV.str c]).bind fun (t : T4) => some (AV.bool (decide (f4a t = []))) else some (AV.bool false)
                else
                  bif decide ((255 : Int) < (↑(List.length c) : Int)) then
                    bif decide (f2b t_1 = (5 : Int)) && decide (f2a t_1 = []) then (R4 [AV.str k, AV.str i, AV.str c]).bind fun (t : T4) => some (AV.bool (decide (f4a t = []))) else some (AV.bool false)
                  else
                    bif decide (f2b t_1 = f1b t) == true then
                      bif !decide (f1b t = (0 : Int)) then
                        (R4 [AV.str k, AV.str i, AV.str c]).bind fun (t : T4) =>
                          (R5 [AV.str k, AV.str i, AV.str c, AV.int IntKind.i64 (64 : Int)]).bind fun (t_2 : T5) => some (AV.bool (decide (f4a t = f5a t_2)))
                      else
                        (R5 [AV.str k, AV.str i, AV.str c, AV.int IntKind.i64 n]).bind fun (t : T5) =>
                          bif decide (f2a t_1 = f5a t) then
                            (R4 [AV.str k, AV.str i, AV.str c]).bind fun (t : T4) =>
                              (R5 [AV.str k, AV.str i, AV.str c, AV.int IntKind.i64 (64 : Int)]).bind fun (t_2 : T5) => some (AV.bool (decide (f4a t = f5a t_2)))
                          else some (AV.bool false)
                    else some (AV.bool false)
            else
              bif decide ((16320 : Int) < n) then
                bif !decide (f1b t = (5 : Int)) || !decide (f1a t = []) then some (AV.bool false)
                else
                  bif decide ((248 : Int) < (↑(List.length i) : Int)) then
                    bif decide (f2b t_1 = (5 : Int)) && decide (f2a t_1 = []) then (R4 [AV.str k, AV.str i, AV.str c]).bind fun (t : T4) => some (AV.bool (decide (f4a t = []))) else some (AV.bool false)
                  else
                    bif decide ((255 : Int) < (↑(List.length c) : Int)) then
                      bif decide (f2b t_1 = (5 : Int)) && decide (f2a t_1 = []) then (R4 [AV.str k, AV.str i, AV.str c]).bind fun (t : T4) => some (AV.bool (decide (f4a t = [])))
                      else some (AV.bool false)
                    else
                      bif decide (f2b t_1 = f1b t) == true then
                        bif !decide (f1b t = (0 : Int)) then
                          (R4 [AV.str k, AV.str i, AV.str c]).bind fun (t : T4) =>
                            (R5 [AV.str k, AV.str i, AV.str c, AV.int IntKind.i64 (64 : Int)]).bind fun (t_2 : T5) => some (AV.bool (decide (f4a t = f5a t_2)))
                        else
                          (R5 [AV.str k, AV.str i, AV.str c, AV.int IntKind.i64 n]).bind fun (t : T5) =>
                            bif decide (f2a t_1 = f5a t) then
                              (R4 [AV.str k, AV.str i, AV.str c]).bind fun (t : T4) =>
                                (R5 [AV.str k, AV.str i, AV.str c, AV.int IntKind.i64 (64 : Int)]).bind fun (t_2 : T5) => some (AV.bool (decide (f4a t = f5a t_2)))
                            else some (AV.bool false)
                      else some (AV.bool false)
              else
                bif !decide (f1b t = (0 : Int)) then some (AV.bool false)
                else
                  (R3 [AV.str k, AV.str i, AV.int IntKind.i64 n]).bind fun (t_2 : T3) =>
                    bif !decide (f1a t = f3a t_2) then some (AV.bool false)
                    else
                      (R3 [AV.str k, AV.str i, AV.int IntKind.i64 (IntKind.i64.wrap (n + (30 : Int)))]).bind fun (t_3 : T3) =>
                        bif decide ((0 : Int) ≤ (0 : Int) ∧ (0 : Int) ≤ n ∧ n ≤ (↑(f3a t_3).length : Int)) then
                          bif !decide (f1a t = sl (f3a t_3) (0 : Int) n) then some (AV.bool false)
                          else
                            bif decide ((248 : Int) < (↑(List.length i) : Int)) then
                              bif decide (f2b t_1 = (5 : Int)) && decide (f2a t_1 = []) then (R4 [AV.str k, AV.str i, AV.str c]).bind fun (t : T4) => some (AV.bool (decide (f4a t = [])))
                              else some (AV.bool false)
                            else
                              bif decide ((255 : Int) < (↑(List.length c) : Int)) then
                                bif decide (f2b t_1 = (5 : Int)) && decide (f2a t_1 = []) then (R4 [AV.str k, AV.str i, AV.str c]).bind fun (t : T4) => some (AV.bool (decide (f4a t = [])))
                                else some (AV.bool false)
                              else
                                bif decide (f2b t_1 = f1b t) == true then
                                  bif !decide (f1b t = (0 : Int)) then
                                    (R4 [AV.str k, AV.str i, AV.str c]).bind fun (t : T4) =>
                                      (R5 [AV.str k, AV.str i, AV.str c, AV.int IntKind.i64 (64 : Int)]).bind fun (t_4 : T5) => some (AV.bool (decide (f4a t = f5a t_4)))
                                  else
                                    (R5 [AV.str k, AV.str i, AV.str c, AV.int IntKind.i64 n]).bind fun (t : T5) =>
                                      bif decide (f2a t_1 = f5a t) then
                                        (R4 [AV.str k, AV.str i, AV.str c]).bind fun (t : T4) =>
                                          (R5 [AV.str k, AV.str i, AV.str c, AV.int IntKind.i64 (64 : Int)]).bind fun (t_4 : T5) => some (AV.bool (decide (f4a t = f5a t_4)))
                                      else some (AV.bool false)
                                else some (AV.bool false)
                        else none
    else some (AV.bool true) := by kernel_rfl
end
end Go.Eng
/- xmd, hmac.Expand, Label, Secret and their documents: their contracts. -/
namespace Go.Eng
open Go Go.Proofs
set_option linter.unusedVariables false
set_option linter.unusedSimpArgs false
noncomputable abbrev gI_XmXo : Cg := g_XmXo 
theorem gok_XmXo : CfOk prog gI_XmXo.c := ⟨gam_nil, fun _ _ h => by cases h⟩
noncomputable abbrev gI_XmMa : Cg := g_XmMa 
theorem gok_XmMa : CfOk prog gI_XmMa.c := ⟨gam_nil, fun _ _ h => by cases h⟩
noncomputable abbrev gI_XmOn : Cg := g_XmOn 
theorem gok_XmOn : CfOk prog gI_XmOn.c := ⟨gam_nil, fun _ _ h => by cases h⟩
noncomputable abbrev gI_XmSu : Cg := g_XmSu (List Nat) rSum (fun t => up t)
theorem gok_XmSu : CfOk prog gI_XmSu.c := ⟨gam_cons ok_Sum <| gam_nil, fun _ _ h => by cases h⟩
def xorI (a b : Str) : List Int := List.zipWith (fun x y => ((x.toNat ^^^ y.toNat : Nat) : Int)) a b
theorem xorI_b8 (a b : Str) : (xorI a b).map b8 = xorL a b := List.map_zipWith
theorem xorI_len (a b : Str) : (xorI a b).length = min a.length b.length := List.length_zipWith
theorem xorL_len (a b : Str) : (xorL a b).length = min a.length b.length := List.length_zipWith
theorem xorI_getD (a b : Str) (i : Nat) (ha : i < a.length) (hb : i < b.length) : (xorI a b).getD i 0 = (((a.getD i 0).toNat ^^^ (b.getD i 0).toNat : Nat) : Int) := by
  simp only [xorI, List.getD_eq_getElem?_getD, List.getElem?_zipWith, List.getElem?_eq_getElem ha, List.getElem?_eq_getElem hb]
  rfl
theorem rt_set (R : List Int) (N i : Nat) (hN : R.length = N) (hi : i < N) : (R.take i ++ List.replicate (N - i) 0).set i (R.getD i 0) = R.take (i + 1) ++ List.replicate (N - (i + 1)) 0 := by
  have e : R.take (i + 1) = R.take i ++ [R.getD i 0] := by
    rw [List.take_add_one, List.getElem?_eq_getElem (by omega), List.getD_eq_getElem?_getD, List.getElem?_eq_getElem (by omega)]; rfl
  have hl : (R.take i).length = i := by rw [List.length_take]; omega
  rw [e, List.set_append_right _ _ (by rw [hl]; omega), hl, Nat.sub_self, show N - i = N - (i + 1) + 1 by omega, List.replicate_succ, List.set_cons_zero, List.append_assoc]; rfl
theorem xo_loop (a b : Str) (ha : a.length ≤ 1099511620000) (hb : b.length ≤ 1099511620000) (N m fu : Nat) (hN : N = min a.length b.length) : ∀ (d n i : Nat), i + d = N → d < n →
    lpA prog gI_XmXo fu XmXo_b1 (XmXo_k1 fu) n (some (XmXo_s1 a b N (N : Int) (i : Int) m ((xorI a b).take i ++ List.replicate (N - i) 0))) = some (.str (xorL a b)) := by
  have hR := xorI_len a b
  intro d
  induction d with
  | zero =>
    intro n i hi hn
    obtain ⟨n, rfl⟩ := Nat.exists_eq_succ_of_ne_zero (by omega : n ≠ 0)
    have e : i = N := by omega
    rw [lpA_succ, XmXo_r1, decide_eq_false (by omega), cond_false, kOut_some, XmXo_c1e0, e, Nat.sub_self, List.replicate_zero, List.append_nil, List.take_of_length_le (by omega), xorI_b8]
  | succ d ih =>
    intro n i hi hn
    obtain ⟨n, rfl⟩ := Nat.exists_eq_succ_of_ne_zero (by omega : n ≠ 0)
    have h := ih n (i + 1) (by omega) (by omega)
    have g := xorI_getD a b i (by omega) (by omega)
    rw [lpA_succ, XmXo_r1, decide_eq_true (by omega), cond_true, decide_eq_true (by omega), cond_true, decide_eq_true (by omega), cond_true, decide_eq_true (by omega), cond_true, Int.toNat_natCast, xor8 _ _ (a.getD i 0).toNat_lt (b.getD i 0).toNat_lt, ← g, rt_set _ N i (by omega) (by omega), wi64 (by omega) (by omega)]
    exact h
theorem minL' (a b : Nat) : (if ((b : Nat) : Int) < (a : Int) then (b : Int) else (a : Int)) = ((min a b : Nat) : Int) := by split <;> omega
theorem ok_Xor : CallOk prog n_xmd_Xor sXor := by
  refine afunc_okE (g := gI_XmXo) (fu := fun args => match args with | [.c (.s (.pl (.str a))), .c (.s (.pl (.str b)))] => min a.length b.length + 1 | _ => 0) mixed gok_XmXo h_xmd_Xor (by kernel_rfl) ?_
  intro args t ht
  unfold sXor at ht
  simp only at ht
  split at ht
  · rename_i a b
    obtain ⟨h1, h2⟩ := ctrueS ht
    subst h2
    rw [Bool.and_eq_true] at h1
    have ha := okLen_ok h1.1
    have hb := okLen_ok h1.2
    refine (XmXo_ev ..).trans ?_
    rw [minL', decide_eq_true (by omega), cond_true, Int.toNat_natCast]
    exact xo_loop a b ha hb (min a.length b.length) (min a.length b.length * 1) (min a.length b.length + 1) rfl (min a.length b.length) (min a.length b.length + 1) 0 (by omega) (Nat.lt_succ_self _)
  · cases ht
theorem run_Xor {a b : Str} (ha : okLen a = true) (hb : okLen b = true) : rXor [.str a, .str b] = some (xorL a b) := by
  have e : (okLen a && okLen b) = true := by rw [ha, hb]; rfl
  simp only [rXor, sXor, e, cond_true]
theorem ok_Mark : CallOk prog n_xmd_Mark sMark := by
  refine afunc_okE (g := gI_XmMa) (fu := fun _ => 0) mixed gok_XmMa h_xmd_Mark (by kernel_rfl) ?_
  intro args t ht
  unfold sMark at ht
  simp only at ht
  split at ht
  · rename_i a
    obtain ⟨h1, h2⟩ := ctrueS ht
    subst h2
    have ha := okLen_ok h1
    refine (XmMa_ev ..).trans ?_
    unfold markS
    by_cases c : 255 < a.length
    · rw [decide_eq_true (by omega), cond_true, if_pos c]; rfl
    · rw [decide_eq_false (by omega), cond_false, if_neg c]
      by_cases c2 : a = []
      · rw [decide_eq_true c2, cond_true, if_pos c2]; rfl
      · rw [decide_eq_false c2, cond_false, if_neg c2, decide_eq_true (by omega), cond_true, wu8n]; rfl
  · cases ht
theorem run_Mark {a : Str} (ha : okLen a = true) : rMark [.str a] = some (markS a) := by
  simp only [rMark, sMark, ha, cond_true]
theorem ok_OneB : CallOk prog n_xmd_Expand_1 sOneB := by
  refine afunc_okE (g := gI_XmOn) (fu := fun _ => 0) mixed gok_XmOn h_xmd_Expand_1 (by kernel_rfl) ?_
  intro args t ht
  unfold sOneB at ht
  simp only at ht
  split at ht
  · cases ht; exact XmOn_ev ..
  · cases ht
theorem ok_Xsum : CallOk prog n_xmd_sum sXsum := by
  refine afunc_okE (g := gI_XmSu) (fu := fun _ => 0) mixed gok_XmSu h_xmd_sum (by kernel_rfl) ?_
  intro args t ht
  unfold sXsum at ht
  simp only at ht
  split at ht
  · rename_i ss n
    obtain ⟨h1, h2⟩ := ctrueS ht
    subst h2
    refine (XmSu_ev ..).trans ?_
    rw [run_Sum h1, Option.bind_some, List.drop_zero, List.take_of_length_le (by rw [up_len, sumB_len]; exact Nat.le_refl _)]; rfl
  · cases ht
theorem run_OneB (n : Int) : rOneB [.int .u8 n] = some [b8 n] := rfl
theorem run_Xsum {ss : List Str} {n : Nat} (h : okSum ss n = true) : rXsum [.s (.dat (.strs ss) n 1)] = some (hS (Lib.join ss [])) := by
  simp only [rXsum, sXsum, h, cond_true]
/-! ## blocks -/
theorem blocksS_succ (f : Nat → Str) (k : Nat) : blocksS f (k + 1) = blocksS f k ++ f k := by
  unfold blocksS
  rw [List.range_succ, List.map_append, List.flatten_append]
  simp
theorem blocksS_len (f : Nat → Str) (h : ∀ i, (f i).length = 64) : ∀ k, (blocksS f k).length = 64 * k := by
  intro k
  induction k with
  | zero => rfl
  | succ k ih => rw [blocksS_succ, List.length_append, ih, h]; omega
theorem xB_len (d : Str) (n : Nat) (m : Str) (i : Nat) : (xB d n m i).length = 64 := by cases i <;> exact hS_len _
theorem eB_len (k info : Str) (i : Nat) : (eB k info i).length = 64 := by cases i <;> exact hmacK_len _ _
theorem join3 (a b c : Str) : Lib.join ([a] ++ ([b] ++ [c])) [] = a ++ (b ++ c) := by rw [join_flat]; simp
theorem join6 (a b c d e f : Str) : Lib.join ([a] ++ ([b] ++ ([c] ++ ([d] ++ ([e] ++ [f]))))) [] = a ++ (b ++ (c ++ (d ++ (e ++ f)))) := by rw [join_flat]; simp
theorem run_Xsum3 {a b c : Str} (h : a.length + b.length + c.length ≤ 1099511627776) : rXsum [.s (.dat (.strs ([a] ++ ([b] ++ [c]))) 3 1)] = some (hS (a ++ (b ++ c))) := by
  have j := join3 a b c
  have := run_Xsum (ss := [a] ++ ([b] ++ [c])) (n := 3) (okSum_of rfl (by simp) (by rw [j, List.length_append, List.length_append]; omega))
  rw [this, j]
theorem run_Xsum6 {a b c d e f : Str} (h : a.length + b.length + c.length + d.length + e.length + f.length ≤ 1099511627776) : rXsum [.s (.dat (.strs ([a] ++ ([b] ++ ([c] ++ ([d] ++ ([e] ++ [f])))))) 6 1)] = some (hS (a ++ (b ++ (c ++ (d ++ (e ++ f)))))) := by
  have j := join6 a b c d e f
  have := run_Xsum (ss := [a] ++ ([b] ++ ([c] ++ ([d] ++ ([e] ++ [f]))))) (n := 6) (okSum_of rfl (by simp) (by rw [j]; simp only [List.length_append]; omega))
  rw [this, j]
noncomputable abbrev gI_XmEx : Cg := g_XmEx (Str × Int) rMark (fun t => t.fst) (fun t => t.snd) (List UInt8) rOneB (fun t => t) (List UInt8) rRepeat (fun t => t) (List UInt8) rJoin (fun t => t) (List UInt8) rXsum (fun t => t) (List UInt8) rXor (fun t => t)
theorem gok_XmEx : CfOk prog gI_XmEx.c := ⟨gam_cons ok_Mark <| gam_cons ok_OneB <| gam_cons ok_Repeat <| gam_cons ok_Join <| gam_cons ok_Xsum <| gam_cons ok_Xor <| gam_nil, fun _ _ h => by cases h⟩
theorem by1_len (n : Nat) : (by1 n).length = 1 := rfl
theorem xe_loop (d : Str) (hd : d.length ≤ 255) (k : Nat) (hk : k ≤ 16320) (m : Str) (fu : Nat) : ∀ (e n j : Nat), j + 1 + e = up64 k → e < n →
    lpA prog gI_XmEx fu XmEx_b1 (XmEx_k1 _ rMark (fun t => t.1) (fun t => t.2) _ rOneB (fun t => t) _ rRepeat (fun t => t) _ rJoin (fun t => t) _ rXsum (fun t => t) _ rXor (fun t => t) fu) n
      (some (XmEx_s1 (k : Int) (d ++ by1 d.length) (xFirst d k m) (xB d k m j) (blocksS (xB d k m) (j + 1)) (((j + 2) % 256 : Nat) : Int))) = some (.tup [.s (.pl (.str (xmdS d k m))), .s (.pl (.int .i64 0))]) := by
  have hf : (xFirst d k m).length = 64 := hS_len _
  intro e
  induction e with
  | zero =>
    intro n j hj hn
    obtain ⟨n, rfl⟩ := Nat.exists_eq_succ_of_ne_zero (by omega : n ≠ 0)
    have hb := blocksS_len (xB d k m) (xB_len d k m) (j + 1)
    unfold up64 at hj
    rw [lpA_succ, XmEx_r1, decide_eq_false (by omega), cond_false, kOut_some, XmEx_c1e0, decide_eq_true (by omega), cond_true, xmdS, show up64 k = j + 1 from hj.symm]
    have : sl (blocksS (xB d k m) (j + 1)) 0 (k : Int) = (blocksS (xB d k m) (j + 1)).take k := by rw [sl]; simp
    rw [this]
  | succ e ih =>
    intro n j hj hn
    obtain ⟨n, rfl⟩ := Nat.exists_eq_succ_of_ne_zero (by omega : n ≠ 0)
    have hb := blocksS_len (xB d k m) (xB_len d k m) (j + 1)
    have h := ih n (j + 1) (by omega) (by omega)
    have hx := xorL_len (xFirst d k m) (xB d k m j)
    have hl := xB_len d k m j
    have hl' := xB_len d k m (j + 1)
    unfold up64 at hj
    have step : hS (xorL (xFirst d k m) (xB d k m j) ++ (by1 (j + 2) ++ (d ++ by1 d.length))) = xB d k m (j + 1) := rfl
    rw [lpA_succ, XmEx_r1, decide_eq_true (by omega), cond_true, run_Xor (okLen_of (by omega)) (okLen_of (by omega)), Option.bind_some, run_OneB, Option.bind_some]
    show (rXsum [AV.s (.dat (.strs ([xorL (xFirst d k m) (xB d k m j)] ++ ([by1 (j + 2)] ++ [d ++ by1 d.length]))) 3 1)]).bind _ = _
    rw [run_Xsum3 (by rw [List.length_append, by1_len, by1_len]; omega), Option.bind_some, step, decide_eq_true (by omega), cond_true]
    rw [blocksS_succ] at h
    have w : IntKind.u8.wrap ((((j + 2) % 256 : Nat) : Int) + 1) = (((j + 1 + 2) % 256 : Nat) : Int) := by
      rw [show (((j + 2) % 256 : Nat) : Int) + 1 = (((j + 2) % 256 + 1 : Nat) : Int) by omega, wu8n]
      omega
    rw [w]
    exact h
theorem ok_Xmd : CallOk prog n_xmd_Expand sXmd := by
  refine afunc_okE (g := gI_XmEx) (fu := fun _ => 300) mixed gok_XmEx h_xmd_Expand (by kernel_rfl) ?_
  intro args t ht
  unfold sXmd at ht
  simp only at ht
  split at ht
  · rename_i d k ss n
    obtain ⟨h1, h2⟩ := ctrueS ht
    subst h2
    rw [Bool.and_eq_true] at h1
    have hd := okLen_ok h1.1
    obtain ⟨e1, l1, l2⟩ := okJ_ok h1.2
    refine (XmEx_ev ..).trans ?_
    unfold xmdA
    by_cases c : k < 1 ∨ 16320 < k
    · rw [if_pos c, show (decide (k < 1) || decide (16320 < k)) = true by rw [← Bool.decide_or]; exact decide_eq_true c, cond_true]; rfl
    · rw [if_neg c, show (decide (k < 1) || decide (16320 < k)) = false by rw [← Bool.decide_or]; exact decide_eq_false c, cond_false, run_Mark h1.1, Option.bind_some]
      by_cases c2 : (markS d).2 = 0
      · rw [decide_eq_true c2, Bool.not_true, cond_false, if_neg (fun h => h c2)]
        have hm : (markS d).1 = d ++ by1 d.length ∧ d.length ≤ 255 := by
          unfold markS at c2 ⊢
          split at c2
          · cases c2
          · rename_i h
            split at c2
            · cases c2
            · rename_i h'
              rw [if_neg h, if_neg h']
              exact ⟨rfl, by omega⟩
        obtain ⟨q, rfl⟩ := Int.eq_ofNat_of_zero_le (by omega : 0 ≤ k)
        have r1 : rRepeat [.str [0], .int .i64 128] = some (Lib.repeatL [0] 128) := run_Repeat [0] 128 (by decide) (by decide)
        have j0 : rJoin [.s (.dat (.strs ss) n 1), .str []] = some (Lib.join ss []) := run_Join (by rw [e1]; exact okSum_of rfl (by omega) (by omega))
        rw [r1, Option.bind_some, j0, Option.bind_some, run_OneB, Option.bind_some, run_OneB, Option.bind_some, run_OneB, Option.bind_some, hm.1, repeatL0, show (8 : Int) = ((8 : Nat) : Int) from rfl, shrI64 _ _ (by decide) (by omega), wu8n, wu8n]
        show (rXsum [AV.s (.dat (.strs ([List.replicate 128 0] ++ ([Lib.join ss []] ++ ([by1 (q / 256)] ++ ([by1 q] ++ ([[0]] ++ [d ++ by1 d.length])))))) 6 1)]).bind _ = _
        rw [run_Xsum6 (by simp only [List.length_append, List.length_replicate, by1_len, List.length_singleton]; omega), Option.bind_some, run_OneB, Option.bind_some]
        rw [show hS (List.replicate 128 0 ++ (Lib.join ss [] ++ (by1 (q / 256) ++ (by1 q ++ ([0] ++ (d ++ by1 d.length)))))) = xFirst d q (Lib.join ss []) from rfl]
        have hf : (xFirst d q (Lib.join ss [])).length = 64 := hS_len _
        show (rXsum [AV.s (.dat (.strs ([xFirst d q (Lib.join ss [])] ++ ([[1]] ++ [d ++ by1 d.length]))) 3 1)]).bind _ = _
        rw [run_Xsum3 (by simp only [List.length_append, by1_len, List.length_singleton]; omega), Option.bind_some]
        have := xe_loop d hm.2 q (by omega) (Lib.join ss []) 300 (up64 q - 1) 300 0 (by unfold up64; omega) (by unfold up64; omega)
        exact this
      · rw [decide_eq_false c2, Bool.not_false, cond_true, if_pos c2]; rfl
  · cases ht
theorem run_Xmd {d : Str} {k : Int} {ss : List Str} {n : Nat} (h : okLen d = true) (h2 : okJ ss n = true) : rXmd [.str d, .int .i64 k, .s (.dat (.strs ss) n 1)] = some (xmdA d k (Lib.join ss [])) := by
  have e : (okLen d && okJ ss n) = true := by rw [h, h2]; rfl
  simp only [rXmd, sXmd, e, cond_true]
noncomputable abbrev gI_XrEx : Cg := g_XrEx (List UInt8) rTwoB (fun t => t) (List UInt8) rRefH (fun t => t)
theorem gok_XrEx : CfOk prog gI_XrEx.c := ⟨gam_cons ok_Two <| gam_cons ok_RefH <| gam_nil, fun _ _ h => by cases h⟩
theorem xr_inner {β : Type} (d : Str) (k : Nat) (b0 b out : Str) (h0 : b0.length = 64) (hb : b.length = 64) (v : Int) (mk : Str) (fu m : Nat) (G : Option St → Option β) (H : Ex → Option St → Option β) : ∀ (e n i : Nat), i + e = 64 → e < n →
    lpA prog gI_XrEx fu XrEx_b2 (XrEx_k2 _ rTwoB (fun t => t) _ rRefH (fun t => t) fu G H) n (some (XrEx_s2 (k : Int) mk b0 b out v 64 (i : Int) m ((xorI b0 b).take i ++ List.replicate (64 - i) 0))) =
      XrEx_k2 _ rTwoB (fun t => t) _ rRefH (fun t => t) fu G H (.exit 2) (XrEx_o2e2 (k : Int) mk b0 out v 64 m (xorI b0 b)) := by
  have hR := xorI_len b0 b
  intro e
  induction e with
  | zero =>
    intro n i hi hn
    obtain ⟨n, rfl⟩ := Nat.exists_eq_succ_of_ne_zero (by omega : n ≠ 0)
    have e : i = 64 := by omega
    subst e
    rw [lpA_succ, XrEx_r2, decide_eq_false (by decide), cond_false, kOut_some, Nat.sub_self, List.replicate_zero, List.append_nil, List.take_of_length_le (by omega)]
  | succ e ih =>
    intro n i hi hn
    obtain ⟨n, rfl⟩ := Nat.exists_eq_succ_of_ne_zero (by omega : n ≠ 0)
    have h := ih n (i + 1) (by omega) (by omega)
    have g := xorI_getD b0 b i (by omega) (by omega)
    rw [lpA_succ, XrEx_r2, decide_eq_true (by omega), cond_true, decide_eq_true (by omega), cond_true, decide_eq_true (by omega), cond_true, decide_eq_true (by omega), cond_true, Int.toNat_natCast, xor8 _ _ (b0.getD i 0).toNat_lt (b.getD i 0).toNat_lt, ← g, rt_set _ 64 i (by omega) (by omega), wi64 (by omega) (by omega)]
    exact h
theorem xr_loop (d : Str) (hd : d.length ≤ 255) (k : Nat) (hk : k ≤ 16320) (m : Str) (fu : Nat) (hfu : 64 < fu) : ∀ (e n j : Nat), j + 1 + e = up64 k → e < n →
    lpA prog gI_XrEx fu XrEx_b1 (XrEx_k1 _ rTwoB (fun t => t) _ rRefH (fun t => t) fu) n
      (some (XrEx_s1 (k : Int) (d ++ by1 d.length) (xFirst d k m) (xB d k m j) (blocksS (xB d k m) (j + 1)) ((j + 2 : Nat) : Int))) = some (.str (xmdS d k m)) := by
  have hf : (xFirst d k m).length = 64 := hS_len _
  intro e
  induction e with
  | zero =>
    intro n j hj hn
    obtain ⟨n, rfl⟩ := Nat.exists_eq_succ_of_ne_zero (by omega : n ≠ 0)
    have hb := blocksS_len (xB d k m) (xB_len d k m) (j + 1)
    unfold up64 at hj
    rw [lpA_succ, XrEx_r1, decide_eq_false (by omega), cond_false, kOut_some, XrEx_c1e0, decide_eq_true (by omega), cond_true, xmdS, show up64 k = j + 1 from hj.symm]
    have : sl (blocksS (xB d k m) (j + 1)) 0 (k : Int) = (blocksS (xB d k m) (j + 1)).take k := by rw [sl]; simp
    rw [this]
  | succ e ih =>
    intro n j hj hn
    obtain ⟨n, rfl⟩ := Nat.exists_eq_succ_of_ne_zero (by omega : n ≠ 0)
    have hb := blocksS_len (xB d k m) (xB_len d k m) (j + 1)
    have h := ih n (j + 1) (by omega) (by omega)
    have hx := xorL_len (xFirst d k m) (xB d k m j)
    have hl := xB_len d k m j
    have hl' := xB_len d k m (j + 1)
    unfold up64 at hj
    have step : hS (xorL (xFirst d k m) (xB d k m j) ++ by1 (j + 2) ++ (d ++ by1 d.length)) = xB d k m (j + 1) := by rw [List.append_assoc]; rfl
    rw [lpA_succ, XrEx_r1, decide_eq_true (by omega), cond_true]
    refine Eq.trans (xr_inner d k (xFirst d k m) (xB d k m j) (blocksS (xB d k m) (j + 1)) hf hl _ (d ++ by1 d.length) fu 64 _ _ 64 fu 0 (by omega) (by omega)) ?_
    rw [XrEx_c2e2, xorI_b8, wu8n]
    rw [decide_eq_true (by omega), cond_true]
    show (bif decide (List.length (xorL (xFirst d k m) (xB d k m j) ++ by1 (j + 2)) + List.length (d ++ by1 d.length) ≤ 9223372036854775807) then (rRefH [AV.str (xorL (xFirst d k m) (xB d k m j) ++ by1 (j + 2) ++ (d ++ by1 d.length))]).bind _ else none) = _
    have hlen : (xorL (xFirst d k m) (xB d k m j) ++ by1 (j + 2)).length + (d ++ by1 d.length).length ≤ 1000 := by
      simp only [List.length_append, by1_len]; omega
    rw [decide_eq_true (by omega), cond_true, run_RefH (by rw [List.length_append]; omega), Option.bind_some]
    show (bif decide ((blocksS (xB d k m) (j + 1)).length + (hS (xorL (xFirst d k m) (xB d k m j) ++ by1 (j + 2) ++ (d ++ by1 d.length))).length ≤ _) then lpA prog gI_XrEx fu XrEx_b1 (XrEx_k1 _ rTwoB (fun t => t) _ rRefH (fun t => t) fu) n (some (XrEx_s1 (k : Int) (d ++ by1 d.length) (xFirst d k m) (hS (xorL (xFirst d k m) (xB d k m j) ++ by1 (j + 2) ++ (d ++ by1 d.length))) (blocksS (xB d k m) (j + 1) ++ hS (xorL (xFirst d k m) (xB d k m j) ++ by1 (j + 2) ++ (d ++ by1 d.length))) (IntKind.i64.wrap (((j + 2 : Nat) : Int) + 1)))) else none) = _
    rw [step, decide_eq_true (by omega), cond_true, wi64 (by omega) (by omega)]
    rw [blocksS_succ] at h
    exact h
theorem b8_zeros (n : Nat) : List.map b8 (List.replicate n (0 : Int)) = List.replicate n 0 := by rw [List.map_replicate]; rfl
theorem ok_RefXmd : CallOk prog n_opalineref04_Expand sRefXmd := by
  refine afunc_okE (g := gI_XrEx) (fu := fun _ => 300) mixed gok_XrEx h_opalineref04_Expand (by kernel_rfl) ?_
  intro args t ht
  unfold sRefXmd at ht
  simp only at ht
  split at ht
  · rename_i d k m
    obtain ⟨h1, h2⟩ := ctrueS ht
    subst h2
    rw [Bool.and_eq_true, decide_eq_true_eq] at h1
    have hm := okLen_ok h1.1
    obtain ⟨q, rfl⟩ := Int.eq_ofNat_of_zero_le (by omega : 0 ≤ k)
    refine (XrEx_ev ..).trans ?_
    rw [decide_eq_true (by omega), cond_true, decide_eq_true (by omega), cond_true, run_Two (n := q) (by omega), Option.bind_some, b8_zeros, wu8n]
    have l1 : (List.replicate 128 (0 : UInt8) ++ m).length = 128 + m.length := by rw [List.length_append, List.length_replicate]
    have l2 : (d ++ List.map b8 [((d.length % 256 : Nat) : Int)]).length = d.length + 1 := by rw [List.length_append]; rfl
    have e1 : hS (List.replicate 128 0 ++ m ++ pre2 q ++ [0] ++ (d ++ by1 d.length)) = xFirst d q m := by
      rw [xFirst, show pre2 q = by1 (q / 256) ++ by1 q from rfl]
      simp only [List.append_assoc]
    rw [decide_eq_true (by rw [l1, pre2_len]; omega), cond_true, decide_eq_true (by rw [List.length_append, l1, pre2_len]; omega), cond_true, decide_eq_true (by rw [List.length_append, List.length_append, l1, pre2_len, l2]; simp; omega), cond_true,
      run_RefH (by simp only [List.length_append, l1, pre2_len, l2, List.length_singleton, List.length_map, List.length_replicate]; omega), Option.bind_some]
    show (bif decide ((hS (List.replicate 128 0 ++ m ++ pre2 q ++ [0] ++ (d ++ by1 d.length))).length + 1 ≤ 9223372036854775807) then (bif decide (List.length (hS (List.replicate 128 0 ++ m ++ pre2 q ++ [0] ++ (d ++ by1 d.length)) ++ [1]) + List.length (d ++ by1 d.length) ≤ 9223372036854775807) then (rRefH [AV.str (hS (List.replicate 128 0 ++ m ++ pre2 q ++ [0] ++ (d ++ by1 d.length)) ++ [1] ++ (d ++ by1 d.length))]).bind (fun t => XrEx_L1 _ rTwoB (fun t => t) _ rRefH (fun t => t) 300 (q : Int) (d ++ by1 d.length) (hS (List.replicate 128 0 ++ m ++ pre2 q ++ [0] ++ (d ++ by1 d.length))) t t 2) else none) else none) = _
    rw [e1]
    have hf : (xFirst d q m).length = 64 := hS_len _
    have l3 : (d ++ by1 d.length).length = d.length + 1 := by rw [List.length_append, by1_len]
    rw [decide_eq_true (by omega), cond_true, decide_eq_true (by rw [List.length_append, l3, hf]; simp; omega), cond_true, run_RefH (by rw [List.length_append, List.length_append, l3, hf]; simp; omega), Option.bind_some]
    have e2 : ((up (sumB (xFirst d q m ++ [1] ++ (d ++ by1 d.length)))).map b8) = xB d q m 0 := by
      rw [List.append_assoc]; rfl
    rw [e2]
    have := xr_loop d h1.2.1 q (by omega) m 300 (by decide) (up64 q - 1) 300 0 (by unfold up64; omega) (by unfold up64; omega)
    exact this
  · cases ht
theorem run_RefXmd {d m : Str} {k : Int} (h : okLen m = true) (h2 : d.length ≤ 255) (h3 : 1 ≤ k) (h4 : k ≤ 16320) : rRefXmd [.str d, .int .i64 k, .str m] = some (xmdS d k.toNat m) := by
  have e : (okLen m && decide (d.length ≤ 255 ∧ 1 ≤ k ∧ k ≤ 16320)) = true := by rw [h, decide_eq_true ⟨h2, h3, h4⟩]; rfl
  simp only [rRefXmd, sRefXmd, e, cond_true]
end Go.Eng
/- The laws XmdXors, XmdParts. -/
namespace Go.Eng
open Go Go.Proofs
set_option linter.unusedVariables false
set_option linter.unusedSimpArgs false
noncomputable abbrev gI_XmAw : Cg := g_XmAw (Str × Int) rXmd (fun t => t.fst) (fun t => t.snd) (PUnit) rTrue (List UInt8) rRefXmd (fun t => t)
theorem gok_XmAw : CfOk prog gI_XmAw.c := ⟨gam_cons ok_Xmd <| gam_cons ok_Awake02 <| gam_cons ok_RefXmd <| gam_nil, fun _ _ h => by cases h⟩
theorem ok_awake04 : CallOk prog n_opalinelaw04_awake sTrue := by
  refine afunc_okE (g := gI_XmAw) (fu := fun _ => 0) mixed gok_XmAw h_opalinelaw04_awake (by kernel_rfl) ?_
  intro args t ht
  unfold sTrue at ht
  simp only at ht
  split at ht
  · cases ht
    refine (XmAw_ev ..).trans ?_
    have e : xmdA [109, 97, 114, 107] 64 (Lib.join [[97, 98, 99]] []) = (xmdS [109, 97, 114, 107] 64 [97, 98, 99], 0) := by
      rw [Lib.join_one, xmdA, if_neg (by omega), if_neg (by decide)]; rfl
    rw [run_Xmd (by decide) (by decide), Option.bind_some, show rTrue [] = some () from rfl, Option.bind_some, e]
    dsimp only
    rw [decide_eq_true (rfl : (0 : Int) = 0), cond_true, run_RefXmd (by decide) (by decide) (by decide) (by decide), Option.bind_some]
    rw [show Int.toNat 64 = 64 from rfl, decide_eq_true rfl]; rfl
  · cases ht
noncomputable abbrev gI_XmAb : Cg := g_XmAb (PUnit) rTrue
theorem gok_XmAb : CfOk prog gI_XmAb.c := ⟨gam_cons ok_awake04 <| gam_nil, fun _ _ h => by cases h⟩
theorem ok_Awake04 : CallOk prog n_opalinelaw04_Awake sTrue := by
  refine afunc_okE (g := gI_XmAb) (fu := fun _ => 0) mixed gok_XmAb h_opalinelaw04_Awake (by kernel_rfl) ?_
  intro args t ht
  unfold sTrue at ht
  simp only at ht
  split at ht
  · cases ht
    refine (XmAb_ev ..).trans ?_
    rw [show rTrue [] = some () from rfl, Option.bind_some]; rfl
  · cases ht
theorem xor_back (x y : UInt8) : b8 ((((b8 ((x.toNat ^^^ y.toNat : Nat) : Int)).toNat ^^^ y.toNat : Nat)) : Int) = x := by
  have h : x.toNat ^^^ y.toNat < 256 := Nat.xor_lt_two_pow (n := 8) x.toNat_lt y.toNat_lt
  rw [b8_toNat _ h, Nat.xor_assoc, Nat.xor_self, Nat.xor_zero]
  exact UInt8.toNat_inj.1 (b8_toNat _ x.toNat_lt)
theorem xorL_back : ∀ a b : Str, xorL (xorL a b) b = a.take (min a.length b.length) := by
  intro a
  induction a with
  | nil => intro b; simp [xorL]
  | cons x r ih =>
    intro b
    match b with
    | [] => simp [xorL]
    | y :: q =>
      have := ih q
      rw [List.length_cons, List.length_cons, show min (r.length + 1) (q.length + 1) = min r.length q.length + 1 by omega, List.take_succ_cons, ← this]
      show b8 _ :: xorL (xorL r q) q = _
      rw [xor_back]
theorem xorL_comm : ∀ a b : Str, xorL b a = xorL a b := by
  intro a
  induction a with
  | nil => intro b; cases b <;> rfl
  | cons x r ih =>
    intro b
    match b with
    | [] => rfl
    | y :: q =>
      show b8 _ :: xorL q r = b8 _ :: xorL r q
      rw [ih q, Nat.xor_comm]
theorem xorL_getD (a b : Str) (i : Nat) (ha : i < a.length) (hb : i < b.length) : (((xorL a b).getD i 0).toNat : Int) = (((a.getD i 0).toNat ^^^ (b.getD i 0).toNat : Nat) : Int) := by
  have e : (xorL a b).getD i 0 = b8 (((a.getD i 0).toNat ^^^ (b.getD i 0).toNat : Nat) : Int) := by
    simp only [xorL, List.getD_eq_getElem?_getD, List.getElem?_zipWith, List.getElem?_eq_getElem ha, List.getElem?_eq_getElem hb]
    rfl
  rw [e, b8_toNat]
  exact Nat.xor_lt_two_pow (n := 8) (a.getD i 0).toNat_lt (b.getD i 0).toNat_lt
noncomputable abbrev gI_XmLX : Cg := g_XmLX (PUnit) rTrue (List UInt8) rXor (fun t => t)
theorem gok_XmLX : CfOk prog gI_XmLX.c := ⟨gam_cons ok_awake04 <| gam_cons ok_Xor <| gam_nil, fun _ _ h => by cases h⟩
def sTSS : Summ where
  T := Unit
  run := fun
    | [.c (.s (.pl (.str a))), .c (.s (.pl (.str b)))] => some ()
    | _ => none
  enc := fun _ => .bool true
theorem xl_loop (a b : Str) (ha : a.length ≤ 1000) (hb : b.length ≤ 1000) (N fu : Nat) (hN : N = min a.length b.length) : ∀ (d n i : Nat), i + d = N → d < n →
    lpA prog gI_XmLX fu XmLX_b1 (XmLX_k1 _ rTrue _ rXor (fun t => t) fu) n (some (XmLX_s1 a b (xorL a b) (N : Int) (N : Int) (i : Int))) = some (.bool true) := by
  have hx := xorL_len a b
  intro d
  induction d with
  | zero =>
    intro n i hi hn
    obtain ⟨n, rfl⟩ := Nat.exists_eq_succ_of_ne_zero (by omega : n ≠ 0)
    have e2 : sl a 0 (N : Int) = a.take N := by rw [sl]; simp
    rw [lpA_succ, XmLX_r1, decide_eq_false (by omega), cond_false, kOut_some, XmLX_c1e0, run_Xor (okLen_of (by omega)) (okLen_of (by omega)), Option.bind_some, decide_eq_true (by omega), cond_true, xorL_back, e2, hN, decide_eq_true rfl, cond_true, run_Xor (okLen_of (by omega)) (okLen_of (by omega)), Option.bind_some, xorL_comm, decide_eq_true rfl, cond_true,
      run_Xor (okLen_of (by omega)) (okLen_of (by decide)), Option.bind_some]
    have : xorL a [] = [] := by cases a <;> rfl
    rw [this, decide_eq_true rfl]
  | succ d ih =>
    intro n i hi hn
    obtain ⟨n, rfl⟩ := Nat.exists_eq_succ_of_ne_zero (by omega : n ≠ 0)
    have h := ih n (i + 1) (by omega) (by omega)
    rw [lpA_succ, XmLX_r1, decide_eq_true (by omega), cond_true, decide_eq_true (by omega), cond_true, decide_eq_true (by omega), cond_true, decide_eq_true (by omega), cond_true, Int.toNat_natCast, xor8 _ _ (a.getD i 0).toNat_lt (b.getD i 0).toNat_lt, xorL_getD a b i (by omega) (by omega), decide_eq_true rfl, Bool.not_true, cond_false, wi64 (by omega) (by omega)]
    exact h
theorem ok_XmdXors : CallOk prog n_opalinelaw04_XmdXors sTSS := by
  refine afunc_okE (g := gI_XmLX) (fu := fun _ => 1001) mixed gok_XmLX h_opalinelaw04_XmdXors (by kernel_rfl) ?_
  intro args t ht
  unfold sTSS at ht
  simp only at ht
  split at ht
  · rename_i a b
    clear ht
    refine (XmLX_ev ..).trans ?_
    have m1 := le_mx (a.length : Int) (b.length : Int)
    rw [show rTrue [] = some () from rfl, Option.bind_some]
    by_cases h : (1000 : Int) < if ((b.length : Nat) : Int) > (a.length : Int) then (b.length : Int) else (a.length : Int)
    · rw [decide_eq_true h, cond_true]; rfl
    · rw [decide_eq_false h, cond_false, run_Xor (okLen_of (by omega)) (okLen_of (by omega)), Option.bind_some, minL', decide_eq_true (by rw [xorL_len]), Bool.not_true, cond_false]
      exact xl_loop a b (by omega) (by omega) (min a.length b.length) 1001 rfl (min a.length b.length) 1001 0 (by omega) (by omega)
  · cases ht
noncomputable abbrev gI_XmLP : Cg := g_XmLP (PUnit) rTrue (Str × Int) rXmd (fun t => t.fst) (fun t => t.snd)
theorem gok_XmLP : CfOk prog gI_XmLP.c := ⟨gam_cons ok_awake04 <| gam_cons ok_Xmd <| gam_nil, fun _ _ h => by cases h⟩
def sTSSuu : Summ where
  T := Unit
  run := fun
    | [.c (.s (.pl (.str a))), .c (.s (.pl (.str b))), .c (.s (.pl (.int .u16 i))), .c (.s (.pl (.int .u8 n)))] => cond (decide (0 ≤ i ∧ i < 65536 ∧ 0 ≤ n ∧ n < 256)) (some ()) none
    | _ => none
  enc := fun _ => .bool true
theorem okJ_of {ss : List Str} {n : Nat} (h1 : n = ss.length) (h2 : ss.length ≤ 1048000) (h3 : (Lib.join ss []).length ≤ 1099511620000) : okJ ss n = true := by
  subst h1
  rw [okJ, Nat.beq_refl, Nat.ble_eq_true_of_le h2, Nat.ble_eq_true_of_le h3]; rfl
theorem xmdS_len (d : Str) (n : Nat) (m : Str) : (xmdS d n m).length = n := by
  rw [xmdS, List.length_take, blocksS_len _ (xB_len d n m)]
  unfold up64
  omega
theorem ok_XmdParts : CallOk prog n_opalinelaw04_XmdParts sTSSuu := by
  refine afunc_okE (g := gI_XmLP) (fu := fun _ => 0) mixed gok_XmLP h_opalinelaw04_XmdParts (by kernel_rfl) ?_
  intro args t ht
  unfold sTSSuu at ht
  simp only at ht
  split at ht
  · rename_i d m i n
    obtain ⟨h1, h2⟩ := ctrueS ht
    simp only [decide_eq_true_eq] at h1
    obtain ⟨q, rfl⟩ := Int.eq_ofNat_of_zero_le h1.1
    obtain ⟨k, rfl⟩ := Int.eq_ofNat_of_zero_le h1.2.2.1
    clear ht
    refine (XmLP_ev ..).trans ?_
    rw [show rTrue [] = some () from rfl, Option.bind_some]
    by_cases c1 : 300 < m.length
    · rw [decide_eq_true (by omega), cond_true]; rfl
    rw [decide_eq_false (by omega), cond_false]
    by_cases c2 : 255 < d.length
    · rw [decide_eq_true (by omega), Bool.true_or, Bool.true_or, cond_true]; rfl
    rw [decide_eq_false (by omega), Bool.false_or]
    by_cases c3 : d = []
    · rw [decide_eq_true c3, Bool.true_or, cond_true]; rfl
    rw [decide_eq_false c3, Bool.false_or]
    by_cases c4 : k = 0
    · rw [decide_eq_true (by omega), cond_true]; rfl
    rw [decide_eq_false (by omega), cond_false, wi64 (n := (m.length : Int) + 1) (by omega) (by omega), decide_eq_false (by omega), cond_false, wi64 (n := (k : Int)) (by omega) (by omega), wi64 (n := (q : Int)) (by omega) (by omega)]
    have hm : (q : Int).tmod ((m.length : Int) + 1) = ((q % (m.length + 1) : Nat) : Int) := by
      rw [Int.tmod_eq_emod_of_nonneg (by omega)]
      exact (Int.natCast_emod q (m.length + 1)).symm
    have hlt : q % (m.length + 1) < m.length + 1 := Nat.mod_lt _ (by omega)
    rw [hm]
    generalize q % (m.length + 1) = a at hlt ⊢
    have e1 : sl m 0 (a : Int) = m.take a := by rw [sl]; simp
    have e2 : sl m (a : Int) (m.length : Int) = m.drop a := by
      rw [sl, Int.toNat_natCast, List.take_of_length_le]
      rw [List.length_drop]; omega
    have e3 : xmdA d (k : Int) m = (xmdS d k m, 0) := by
      have hk : (markS d).2 = 0 := by rw [markS, if_neg c2, if_neg c3]
      rw [xmdA, if_neg (by omega), if_neg (fun h => h hk)]; rfl
    have j3 := join3 (m.take a) [] (m.drop a)
    rw [List.nil_append, List.take_append_drop] at j3
    rw [run_Xmd (ss := [m]) (n := 1) (okLen_of (by omega)) (okJ_of rfl (by simp) (by rw [Lib.join_one]; omega)), Option.bind_some, decide_eq_true (by omega), cond_true, decide_eq_true (by omega), cond_true, e1, e2,
      run_Xmd (n := 3) (okLen_of (by omega)) (okJ_of rfl (by simp) (by rw [j3]; omega)), Option.bind_some, Lib.join_one, j3, e3]
    dsimp only
    rw [decide_eq_true (rfl : (0 : Int) = 0), decide_eq_true rfl, Bool.and_self, Bool.and_self, cond_true, xmdS_len, decide_eq_true rfl]; rfl
  · cases ht
end Go.Eng
/- hmac.Expand, Label, Secret and their documents; the law HmacExpands. -/
namespace Go.Eng
open Go Go.Proofs
set_option linter.unusedVariables false
set_option linter.unusedSimpArgs false
noncomputable abbrev gI_HxEx : Cg := g_HxEx (List UInt8) rWith (fun t => t) (List UInt8) rKeyed (fun t => t)
theorem gok_HxEx : CfOk prog gI_HxEx.c := ⟨gam_cons ok_With <| gam_cons ok_Keyed <| gam_nil, fun _ _ h => by cases h⟩
noncomputable abbrev gI_HxRE : Cg := g_HxRE (List UInt8) rRefHmac (fun t => t)
theorem gok_HxRE : CfOk prog gI_HxRE.c := ⟨gam_cons ok_RefHmac <| gam_nil, fun _ _ h => by cases h⟩
theorem okL2_ok {s : Str} (h : okL2 s = true) : s.length ≤ 1099511000000 := Nat.le_of_ble_eq_true h
theorem okL2_of {s : Str} (h : s.length ≤ 1099511000000) : okL2 s = true := Nat.ble_eq_true_of_le h
/-- the block before -/
def lastE (f : Nat → Str) : Nat → Str
  | 0 => []
  | i + 1 => f i
theorem eB_step (k info : Str) (j : Nat) : eB k info j = hmacS k (lastE (eB k info) j ++ (info ++ by1 (j + 1))) := by
  cases j with
  | zero => rw [lastE, List.nil_append]; rfl
  | succ j => rfl
theorem lastE_len (k info : Str) (j : Nat) : (lastE (eB k info) j).length ≤ 64 := by
  cases j with
  | zero => exact Nat.zero_le _
  | succ j => exact Nat.le_of_eq (eB_len k info j)
theorem he_loop (k info : Str) (hi : info.length ≤ 1099511000000) (q : Nat) (hq : q ≤ 16320) (fu : Nat) : ∀ (e n j : Nat), j + e = up64 q → e < n →
    lpA prog gI_HxEx fu HxEx_b1 (HxEx_k1 _ rWith (fun t => t) _ rKeyed (fun t => t) fu) n
      (some (HxEx_s1 info (q : Int) (wholeS k) (blocksS (eB k info) j) (lastE (eB k info) j) (((j + 1) % 256 : Nat) : Int))) = some (.tup [.s (.pl (.str (expS k info q))), .s (.pl (.int .i64 0))]) := by
  intro e
  induction e with
  | zero =>
    intro n j hj hn
    obtain ⟨n, rfl⟩ := Nat.exists_eq_succ_of_ne_zero (by omega : n ≠ 0)
    have hb := blocksS_len (eB k info) (eB_len k info) j
    unfold up64 at hj
    have e2 : sl (blocksS (eB k info) j) 0 (q : Int) = (blocksS (eB k info) j).take q := by rw [sl]; simp
    rw [lpA_succ, HxEx_r1, decide_eq_false (by omega), cond_false, kOut_some, HxEx_c1e1, decide_eq_true (by omega), cond_true, expS, show up64 q = j from hj.symm, e2]
  | succ e ih =>
    intro n j hj hn
    obtain ⟨n, rfl⟩ := Nat.exists_eq_succ_of_ne_zero (by omega : n ≠ 0)
    have hb := blocksS_len (eB k info) (eB_len k info) j
    have h := ih n (j + 1) (by omega) (by omega)
    have hl := lastE_len k info j
    unfold up64 at hj
    have j3 := join3 (lastE (eB k info) j) info (by1 (j + 1))
    have le := eB_len k info j
    rw [lpA_succ, HxEx_r1, decide_eq_true (by omega), cond_true]
    show (rKeyed [AV.str (wholeS k), AV.s (.dat (.strs ([lastE (eB k info) j] ++ ([info] ++ [by1 (j + 1)]))) 3 1)]).bind _ = _
    rw [run_Keyed (n := 3) (wholeS_len k) (okJ_of rfl (by simp) (by rw [j3, List.length_append, List.length_append, by1_len]; omega)), Option.bind_some, j3, show hmacK (wholeS k) (lastE (eB k info) j ++ (info ++ by1 (j + 1))) = eB k info j from (eB_step k info j).symm, decide_eq_true (by omega), cond_true]
    rw [blocksS_succ] at h
    have w : IntKind.u8.wrap ((((j + 1) % 256 : Nat) : Int) + 1) = (((j + 1 + 1) % 256 : Nat) : Int) := by
      rw [show (((j + 1) % 256 : Nat) : Int) + 1 = (((j + 1) % 256 + 1 : Nat) : Int) by omega, wu8n]
      omega
    rw [w]
    exact h
theorem ok_Expand : CallOk prog n_hmac_Expand sExpand := by
  refine afunc_okE (g := gI_HxEx) (fu := fun _ => 300) mixed gok_HxEx h_hmac_Expand (by kernel_rfl) ?_
  intro args t ht
  unfold sExpand at ht
  simp only at ht
  split at ht
  · rename_i k i n
    obtain ⟨h1, h2⟩ := ctrueS ht
    subst h2
    rw [Bool.and_eq_true] at h1
    refine (HxEx_ev ..).trans ?_
    unfold expA
    by_cases c : n < 0
    · rw [decide_eq_true c, cond_true, if_pos c]; rfl
    rw [decide_eq_false c, cond_false, if_neg c]
    by_cases c2 : 16320 < n
    · rw [decide_eq_true c2, cond_true, if_pos c2]; rfl
    obtain ⟨q, rfl⟩ := Int.eq_ofNat_of_zero_le (by omega : 0 ≤ n)
    rw [decide_eq_false c2, cond_false, if_neg c2, run_With h1.1, Option.bind_some]
    exact he_loop k i (okL2_ok h1.2) q (by omega) 300 (up64 q) 300 0 (by omega) (by unfold up64; omega)
  · cases ht
theorem run_Expand {k i : Str} {n : Int} (hk : okLen k = true) (hi : okL2 i = true) : rExpand [.str k, .str i, .int .i64 n] = some (expA k i n) := by
  have e : (okLen k && okL2 i) = true := by rw [hk, hi]; rfl
  simp only [rExpand, sExpand, e, cond_true]
theorem hre_loop (k info : Str) (hk : okLen k = true) (hi : info.length ≤ 1099511000000) (q : Nat) (hq : q ≤ 1000000) (fu : Nat) : ∀ (e n j : Nat), j + e = up64 q → e < n →
    lpA prog gI_HxRE fu HxRE_b1 (HxRE_k1 _ rRefHmac (fun t => t) fu) n
      (some (HxRE_s1 k info (q : Int) (blocksS (eB k info) j) (lastE (eB k info) j) ((j + 1 : Nat) : Int))) = some (.str (expS k info q)) := by
  intro e
  induction e with
  | zero =>
    intro n j hj hn
    obtain ⟨n, rfl⟩ := Nat.exists_eq_succ_of_ne_zero (by omega : n ≠ 0)
    have hb := blocksS_len (eB k info) (eB_len k info) j
    unfold up64 at hj
    have e2 : sl (blocksS (eB k info) j) 0 (q : Int) = (blocksS (eB k info) j).take q := by rw [sl]; simp
    rw [lpA_succ, HxRE_r1, decide_eq_false (by omega), cond_false, kOut_some, HxRE_c1e0, decide_eq_true (by omega), cond_true, expS, show up64 q = j from hj.symm, e2]
  | succ e ih =>
    intro n j hj hn
    obtain ⟨n, rfl⟩ := Nat.exists_eq_succ_of_ne_zero (by omega : n ≠ 0)
    have hb := blocksS_len (eB k info) (eB_len k info) j
    have h := ih n (j + 1) (by omega) (by omega)
    have hl := lastE_len k info j
    unfold up64 at hj
    have le := eB_len k info j
    rw [lpA_succ, HxRE_r1, decide_eq_true (by omega), cond_true, decide_eq_true (by omega), cond_true, decide_eq_true (by rw [List.length_append]; omega), cond_true, wu8n]
    show (rRefHmac [AV.str k, AV.str (lastE (eB k info) j ++ info ++ by1 (j + 1))]).bind _ = _
    rw [run_RefHmac hk (okLen_of (by rw [List.length_append, List.length_append, by1_len]; omega)), Option.bind_some, List.append_assoc, ← eB_step, decide_eq_true (by omega), cond_true, wi64 (by omega) (by omega)]
    rw [blocksS_succ] at h
    exact h
theorem ok_RefExpand : CallOk prog n_opalineref03_Expand sRefExpand := by
  refine afunc_okE (g := gI_HxRE) (fu := fun _ => 20000) mixed gok_HxRE h_opalineref03_Expand (by kernel_rfl) ?_
  intro args t ht
  unfold sRefExpand at ht
  simp only at ht
  split at ht
  · rename_i k i n
    obtain ⟨h1, h2⟩ := ctrueS ht
    subst h2
    rw [Bool.and_eq_true, Bool.and_eq_true, decide_eq_true_eq] at h1
    obtain ⟨q, rfl⟩ := Int.eq_ofNat_of_zero_le h1.2.1
    refine (HxRE_ev ..).trans ?_
    have := hre_loop k i h1.1.1 (okL2_ok h1.1.2) q (by omega) 20000 (up64 q) 20000 0 (by omega) (by unfold up64; omega)
    exact this
  · cases ht
theorem run_RefExpand {k i : Str} {n : Int} (hk : okLen k = true) (hi : okL2 i = true) (h0 : 0 ≤ n) (h1 : n ≤ 1000000) : rRefExpand [.str k, .str i, .int .i64 n] = some (expS k i n.toNat) := by
  have e : (okLen k && okL2 i && decide (0 ≤ n ∧ n ≤ 1000000)) = true := by rw [hk, hi, decide_eq_true ⟨h0, h1⟩]; rfl
  simp only [rRefExpand, sRefExpand, e, cond_true]
noncomputable abbrev gI_HxLa : Cg := g_HxLa (Str × Int) rExpand (fun t => t.fst) (fun t => t.snd)
theorem gok_HxLa : CfOk prog gI_HxLa.c := ⟨gam_cons ok_Expand <| gam_nil, fun _ _ h => by cases h⟩
theorem opq_len (l : Str) : (opq ++ l).length = 7 + l.length := by rw [List.length_append]; rfl
theorem ok_Label : CallOk prog n_hmac_Label sLabel := by
  refine afunc_okE (g := gI_HxLa) (fu := fun _ => 0) mixed gok_HxLa h_hmac_Label (by kernel_rfl) ?_
  intro args t ht
  unfold sLabel at ht
  simp only at ht
  split at ht
  · rename_i k l c n
    obtain ⟨h1, h2⟩ := ctrueS ht
    subst h2
    simp only [Bool.and_eq_true, decide_eq_true_eq] at h1
    obtain ⟨⟨⟨hk, hl⟩, hc⟩, hn⟩ := h1
    have hl' := okL2_ok hl
    have hc' := okL2_ok hc
    have ol := opq_len l
    refine (HxLa_ev ..).trans ?_
    rw [show ([79, 80, 65, 81, 85, 69, 45] ++ l : Str) = opq ++ l from rfl]
    unfold labelA
    rw [decide_eq_true (by omega), cond_true]
    by_cases c1 : 248 < l.length
    · rw [decide_eq_true (by omega), cond_true, if_pos (Or.inl c1)]; rfl
    rw [decide_eq_false (by omega), cond_false]
    by_cases c2 : 255 < c.length
    · rw [decide_eq_true (by omega), cond_true, if_pos (Or.inr c2)]; rfl
    rw [decide_eq_false (by omega), cond_false, if_neg (by omega), decide_eq_true (by omega), cond_true, wu8n, wu8n]
    have ll : ∀ a b : Int, (List.map b8 ([a] ++ ([b] ++ [(((opq ++ l).length % 256 : Nat) : Int)])) ++ (opq ++ l)).length = 10 + l.length := fun a b => by
      rw [List.length_append, ol]; simp; omega
    rw [decide_eq_true (by rw [ll]; omega), cond_true, decide_eq_true (by rw [List.length_append, ll]; simp; omega), cond_true]
    rw [run_Expand hk (okL2_of (by rw [List.length_append, List.length_append, ll]; simp; omega)), Option.bind_some]
    unfold expA
    by_cases c3 : n < 0
    · rw [if_pos c3, if_pos c3]; rfl
    rw [if_neg c3, if_neg c3]
    by_cases c4 : 16320 < n
    · rw [if_pos c4, if_pos c4]; rfl
    rw [if_neg c4, if_neg c4]
    obtain ⟨q, rfl⟩ := Int.eq_ofNat_of_zero_le (by omega : 0 ≤ n)
    rw [Int.toNat_natCast, labelS, infoS, show (8 : Int) = ((8 : Nat) : Int) from rfl, shrI64 _ _ (by decide) (by omega), wu8n, wu8n]
    have e : List.map b8 ([((q / 2 ^ 8 % 256 : Nat) : Int)] ++ ([((q % 256 : Nat) : Int)] ++ [(((opq ++ l).length % 256 : Nat) : Int)])) ++ (opq ++ l) ++ List.map b8 [((c.length % 256 : Nat) : Int)] ++ c =
        pre2 q ++ (by1 (opq ++ l).length ++ ((opq ++ l) ++ (by1 c.length ++ c))) := by
      simp only [List.append_assoc, List.map_append]; rfl
    rw [e]; rfl
  · cases ht
theorem run_Label {k l c : Str} {n : Int} (hk : okLen k = true) (hl : okL2 l = true) (hc : okL2 c = true) (h0 : -9223372036854775808 ≤ n) (h1 : n < 9223372036854775808) : rLabel [.str k, .str l, .str c, .int .i64 n] = some (labelA k l c n) := by
  have e : (okLen k && okL2 l && okL2 c && decide (-9223372036854775808 ≤ n ∧ n < 9223372036854775808)) = true := by rw [hk, hl, hc, decide_eq_true ⟨h0, h1⟩]; rfl
  simp only [rLabel, sLabel, e, cond_true]
noncomputable abbrev gI_HxSe : Cg := g_HxSe (Str × Int) rLabel (fun t => t.fst) (fun t => t.snd)
theorem gok_HxSe : CfOk prog gI_HxSe.c := ⟨gam_cons ok_Label <| gam_nil, fun _ _ h => by cases h⟩
theorem ok_Secret : CallOk prog n_hmac_Secret sSecret := by
  refine afunc_okE (g := gI_HxSe) (fu := fun _ => 0) mixed gok_HxSe h_hmac_Secret (by kernel_rfl) ?_
  intro args t ht
  unfold sSecret at ht
  simp only at ht
  split at ht
  · rename_i k l c
    obtain ⟨h1, h2⟩ := ctrueS ht
    subst h2
    simp only [Bool.and_eq_true] at h1
    refine (HxSe_ev ..).trans ?_
    rw [run_Label h1.1.1 h1.1.2 h1.2 (by decide) (by decide), Option.bind_some]; rfl
  · cases ht
theorem run_Secret {k l c : Str} (hk : okLen k = true) (hl : okL2 l = true) (hc : okL2 c = true) : rSecret [.str k, .str l, .str c] = some (labelA k l c 64).1 := by
  have e : (okLen k && okL2 l && okL2 c) = true := by rw [hk, hl, hc]; rfl
  simp only [rSecret, sSecret, e, cond_true]
noncomputable abbrev gI_HxRL : Cg := g_HxRL (List UInt8) rTwoB (fun t => t) (List UInt8) rRefExpand (fun t => t)
theorem gok_HxRL : CfOk prog gI_HxRL.c := ⟨gam_cons ok_Two <| gam_cons ok_RefExpand <| gam_nil, fun _ _ h => by cases h⟩
theorem ok_RefLabel : CallOk prog n_opalineref03_Label sRefLabel := by
  refine afunc_okE (g := gI_HxRL) (fu := fun _ => 0) mixed gok_HxRL h_opalineref03_Label (by kernel_rfl) ?_
  intro args t ht
  unfold sRefLabel at ht
  simp only at ht
  split at ht
  · rename_i k l c n
    obtain ⟨h1, h2⟩ := ctrueS ht
    subst h2
    rw [Bool.and_eq_true, decide_eq_true_eq] at h1
    obtain ⟨hk, hl, hc, hn, hn2⟩ := h1
    obtain ⟨q, rfl⟩ := Int.eq_ofNat_of_zero_le hn
    have ol := opq_len l
    refine (HxRL_ev ..).trans ?_
    rw [show ([79, 80, 65, 81, 85, 69, 45] ++ l : Str) = opq ++ l from rfl, decide_eq_true (by omega), cond_true, run_Two (by omega), Option.bind_some, wu8n, wu8n, pre2_len]
    have lo : opq.length = 7 := rfl
    have ll : (pre2 q ++ List.map b8 [(((opq ++ l).length % 256 : Nat) : Int)]).length = 3 := rfl
    rw [decide_eq_true (by omega), cond_true, decide_eq_true (by omega), cond_true, decide_eq_true (by rw [List.length_append, ll]; omega), cond_true, decide_eq_true (by rw [List.length_append, List.length_append, ll]; simp; omega), cond_true,
      run_RefExpand hk (okL2_of (by simp only [List.length_append, ll, List.length_map, List.length_singleton] at *; omega)) (by omega) hn2, Option.bind_some, Int.toNat_natCast]
    have e : pre2 q ++ List.map b8 [(((opq ++ l).length % 256 : Nat) : Int)] ++ (opq ++ l) ++ List.map b8 [((c.length % 256 : Nat) : Int)] ++ c =
        pre2 q ++ (by1 (opq ++ l).length ++ ((opq ++ l) ++ (by1 c.length ++ c))) := by
      simp only [List.append_assoc]; rfl
    rw [e]; rfl
  · cases ht
theorem run_RefLabel {k l c : Str} {n : Int} (hk : okLen k = true) (hl : l.length ≤ 248) (hc : c.length ≤ 255) (h0 : 0 ≤ n) (h1 : n ≤ 1000000) : rRefLabel [.str k, .str l, .str c, .int .i64 n] = some (labelS k l c n.toNat) := by
  have e : (okLen k && decide (l.length ≤ 248 ∧ c.length ≤ 255 ∧ 0 ≤ n ∧ n ≤ 1000000)) = true := by rw [hk, decide_eq_true ⟨hl, hc, h0, h1⟩]; rfl
  simp only [rRefLabel, sRefLabel, e, cond_true]
noncomputable abbrev gI_HxAw : Cg := g_HxAw (PUnit) rTrue
theorem gok_HxAw : CfOk prog gI_HxAw.c := ⟨gam_cons ok_awake03 <| gam_nil, fun _ _ h => by cases h⟩
theorem ok_Awake03 : CallOk prog n_opalinelaw03_Awake sTrue := by
  refine afunc_okE (g := gI_HxAw) (fu := fun _ => 0) mixed gok_HxAw h_opalinelaw03_Awake (by kernel_rfl) ?_
  intro args t ht
  unfold sTrue at ht
  simp only at ht
  split at ht
  · cases ht
    refine (HxAw_ev ..).trans ?_
    rw [show rTrue [] = some () from rfl, Option.bind_some]; rfl
  · cases ht
/-! ## the law -/
noncomputable abbrev gI_HxLE : Cg := g_HxLE (PUnit) rTrue (Str × Int) rExpand (fun t => t.fst) (fun t => t.snd) (Str × Int) rLabel (fun t => t.fst) (fun t => t.snd) (List UInt8) rRefExpand (fun t => t) (List UInt8) rSecret (fun t => t) (List UInt8) rRefLabel (fun t => t)
theorem gok_HxLE : CfOk prog gI_HxLE.c := ⟨gam_cons ok_awake03 <| gam_cons ok_Expand <| gam_cons ok_Label <| gam_cons ok_RefExpand <| gam_cons ok_Secret <| gam_cons ok_RefLabel <| gam_nil, fun _ _ h => by cases h⟩
def sTSSSi : Summ where
  T := Unit
  run := fun
    | [.c (.s (.pl (.str a))), .c (.s (.pl (.str b))), .c (.s (.pl (.str c))), .c (.s (.pl (.int .i64 n)))] => cond (decide (-9223372036854775808 ≤ n ∧ n < 9223372036854775808)) (some ()) none
    | _ => none
  enc := fun _ => .bool true
theorem blocksS_take (f : Nat → Str) (h : ∀ i, (f i).length = 64) : ∀ (k m : Nat), k ≤ m → (blocksS f m).take (64 * k) = blocksS f k := by
  intro k m
  induction m with
  | zero =>
    intro hk
    rw [show k = 0 by omega]; rfl
  | succ m ih =>
    intro hk
    have hl := blocksS_len f h m
    by_cases c : k = m + 1
    · subst c
      rw [List.take_of_length_le]
      rw [blocksS_len f h]; exact Nat.le_refl _
    · rw [blocksS_succ, List.take_append_of_le_length (by omega)]
      exact ih (by omega)
theorem expS_len (k i : Str) (n : Nat) : (expS k i n).length = n := by
  rw [expS, List.length_take, blocksS_len _ (eB_len k i)]
  unfold up64
  omega
theorem expS_take (k i : Str) (n m : Nat) (h : n ≤ m) : (expS k i m).take n = expS k i n := by
  rw [expS, List.take_take, Nat.min_eq_left h, expS, ← blocksS_take _ (eB_len k i) (up64 n) (up64 m) (by unfold up64; omega), List.take_take, Nat.min_eq_left (by unfold up64; omega)]
theorem ok_HmacExpands : CallOk prog n_opalinelaw03_HmacExpands sTSSSi := by
  refine afunc_okE (g := gI_HxLE) (fu := fun _ => 0) mixed gok_HxLE h_opalinelaw03_HmacExpands (by kernel_rfl) ?_
  intro args t ht
  unfold sTSSSi at ht
  simp only at ht
  split at ht
  · rename_i k i c n
    obtain ⟨h1, h2⟩ := ctrueS ht
    simp only [decide_eq_true_eq] at h1
    clear ht
    refine (HxLE_ev ..).trans ?_
    rw [show rTrue [] = some () from rfl, Option.bind_some]
    have m1 := le_mx (k.length : Int) (i.length : Int)
    generalize (if ((i.length : Nat) : Int) > (k.length : Int) then (i.length : Int) else (k.length : Int)) = x at m1 ⊢
    have m2 := le_mx x (c.length : Int)
    generalize (if ((c.length : Nat) : Int) > x then (c.length : Int) else x) = y at m2 ⊢
    by_cases h : 300 < y
    · rw [decide_eq_true h]; rfl
    rw [decide_eq_false h, show ((false : Bool) == false) = true from rfl, cond_true]
    by_cases h2 : 1000 < n ∧ n ≤ 16320
    · rw [decide_eq_true h2.1, decide_eq_true h2.2]; rfl
    rw [show (decide (1000 < n) && decide (n ≤ 16320)) = false by rw [← Bool.decide_and]; exact decide_eq_false h2, cond_false]
    have ok := okLen_of (s := k) (by omega)
    have oi := okL2_of (s := i) (by omega)
    have oc := okL2_of (s := c) (by omega)
    rw [run_Expand ok oi, Option.bind_some, run_Label ok oi oc h1.1 h1.2, Option.bind_some, run_Secret ok oi oc]
    simp only [Option.bind_some]
    -- the label's answer
    have lab : ∀ n, labelA k i c n = if 248 < i.length ∨ 255 < c.length then ([], 5) else ((if n < 0 then ([], 2) else if 16320 < n then ([], 5) else (labelS k i c n.toNat, 0) : Str × Int)) := fun _ => rfl
    by_cases c1 : 248 < i.length
    · have e : ∀ n, labelA k i c n = ([], 5) := fun n => by rw [lab, if_pos (Or.inl c1)]
      rw [e, e, decide_eq_true (by omega : (248 : Int) < (i.length : Int))]
      by_cases c3 : n < 0
      · rw [expA, if_pos c3, decide_eq_true c3]; rfl
      by_cases c4 : 16320 < n
      · rw [expA, if_neg c3, if_pos c4, decide_eq_false c3, cond_false, decide_eq_true c4]; rfl
      rw [expA, if_neg c3, if_neg c4, decide_eq_false c3, cond_false, decide_eq_false c4, cond_false]
      obtain ⟨q, rfl⟩ := Int.eq_ofNat_of_zero_le (by omega : 0 ≤ n)
      rw [wi64 (n := (q : Int) + 30) (by omega) (by omega), run_RefExpand ok oi (by omega) (by omega), Option.bind_some, run_RefExpand ok oi (by omega) (by omega), Option.bind_some]
      have e2 : sl (expS k i ((q : Int) + 30).toNat) 0 (q : Int) = expS k i q := by
        rw [sl, show Int.toNat 0 = 0 from rfl, List.drop_zero, show ((q : Int) - 0).toNat = q by omega, expS_take _ _ _ _ (by omega)]
      rw [e2, expS_len]
      rw [decide_eq_true (by omega : (0 : Int) ≤ 0 ∧ (0 : Int) ≤ (q : Int) ∧ (q : Int) ≤ ((((q : Int) + 30).toNat : Nat) : Int)), Int.toNat_natCast, decide_eq_true (rfl : expS k i q = _)]; rfl
    · rw [decide_eq_false (by omega : ¬ (248 : Int) < (i.length : Int))]
      by_cases c2 : 255 < c.length
      · have e : ∀ n, labelA k i c n = ([], 5) := fun n => by rw [lab, if_pos (Or.inr c2)]
        rw [e, e, decide_eq_true (by omega : (255 : Int) < (c.length : Int))]
        by_cases c3 : n < 0
        · rw [expA, if_pos c3, decide_eq_true c3]; rfl
        by_cases c4 : 16320 < n
        · rw [expA, if_neg c3, if_pos c4, decide_eq_false c3, cond_false, decide_eq_true c4]; rfl
        rw [expA, if_neg c3, if_neg c4, decide_eq_false c3, cond_false, decide_eq_false c4, cond_false]
        obtain ⟨q, rfl⟩ := Int.eq_ofNat_of_zero_le (by omega : 0 ≤ n)
        rw [wi64 (n := (q : Int) + 30) (by omega) (by omega), run_RefExpand ok oi (by omega) (by omega), Option.bind_some, run_RefExpand ok oi (by omega) (by omega), Option.bind_some]
        have e2 : sl (expS k i ((q : Int) + 30).toNat) 0 (q : Int) = expS k i q := by
          rw [sl, show Int.toNat 0 = 0 from rfl, List.drop_zero, show ((q : Int) - 0).toNat = q by omega, expS_take _ _ _ _ (by omega)]
        rw [e2, expS_len]
        rw [decide_eq_true (by omega : (0 : Int) ≤ 0 ∧ (0 : Int) ≤ (q : Int) ∧ (q : Int) ≤ ((((q : Int) + 30).toNat : Nat) : Int)), Int.toNat_natCast, decide_eq_true (rfl : expS k i q = _)]; rfl
      · have e : ∀ n, labelA k i c n = (if n < 0 then ([], 2) else if 16320 < n then ([], 5) else (labelS k i c n.toNat, 0) : Str × Int) := fun n => by rw [lab, if_neg (by omega)]
        have e64 : labelA k i c 64 = (labelS k i c 64, 0) := by rw [e]; rfl
        have r64 := run_RefLabel (n := 64) ok (by omega : i.length ≤ 248) (by omega : c.length ≤ 255) (by decide) (by decide)
        rw [e64, r64, decide_eq_false (by omega : ¬ (255 : Int) < (c.length : Int)), e, show Int.toNat 64 = 64 from rfl]
        by_cases c3 : n < 0
        · rw [expA, if_pos c3, if_pos c3, decide_eq_true c3, cond_true]
          simp only [Option.bind_some]
          rfl
        by_cases c4 : 16320 < n
        · rw [expA, if_neg c3, if_pos c4, if_neg c3, if_pos c4, decide_eq_false c3, cond_false, decide_eq_true c4, cond_true]
          simp only [Option.bind_some]
          rfl
        rw [expA, if_neg c3, if_neg c4, if_neg c3, if_neg c4, decide_eq_false c3, cond_false, decide_eq_false c4, cond_false]
        obtain ⟨q, rfl⟩ := Int.eq_ofNat_of_zero_le (by omega : 0 ≤ n)
        rw [wi64 (n := (q : Int) + 30) (by omega) (by omega), run_RefExpand ok oi (by omega) (by omega), Option.bind_some, run_RefExpand ok oi (by omega) (by omega), Option.bind_some, run_RefLabel ok (by omega) (by omega) (by omega) (by omega)]
        have e2 : sl (expS k i ((q : Int) + 30).toNat) 0 (q : Int) = expS k i q := by
          rw [sl, show Int.toNat 0 = 0 from rfl, List.drop_zero, show ((q : Int) - 0).toNat = q by omega, expS_take _ _ _ _ (by omega)]
        rw [e2, expS_len]
        rw [decide_eq_true (by omega : (0 : Int) ≤ 0 ∧ (0 : Int) ≤ (q : Int) ∧ (q : Int) ≤ ((((q : Int) + 30).toNat : Nat) : Int)), Int.toNat_natCast, decide_eq_true (rfl : expS k i q = _)]
        simp only [Option.bind_some, Int.toNat_natCast]
        rfl
  · cases ht
end Go.Eng
