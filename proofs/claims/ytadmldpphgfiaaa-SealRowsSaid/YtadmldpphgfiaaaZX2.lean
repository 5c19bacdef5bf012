/- Texts of this claim, one behind the other: SeS, GSe1, PSe1, PSe2. -/
import Derived.KernelRfl
import Derived.Test.YtadmldpphgfiaaaEngNums
import Derived.Test.YtadmldpphgfiaaaZX1
/- The contracts of seal and of its document: how they are told. -/
namespace Go.Eng
open Go Go.Proofs
set_option linter.unusedVariables false
set_option linter.unusedSimpArgs false
def encW : Str := [69, 110, 99, 114, 121, 112, 116]
def autW : Str := [65, 117, 116, 104, 101, 110, 116, 105, 99, 97, 116, 101]
def hideK (key : Str) : Str := labelS key encW [] 64
def holdK (key : Str) : Str := labelS key autW [] 64
def rowB (w nonce : Str) (i : Nat) : Str := hmacK w (nonce ++ four i)
def rowW (w nonce : Str) (n : Nat) : Str := (blocksS (rowB w nonce) (up64 n)).take n
def rowS (key nonce : Str) (n : Nat) : Str := rowW (wholeS (hideK key)) nonce n
def sumS (key note nonce hidden : Str) : Str := hmacS (holdK key) (cntL [note, nonce] ++ hidden)
def sealS (key nonce note text : Str) : Str := nonce ++ (xorL text (rowS key nonce text.length) ++ sumS key note nonce (xorL text (rowS key nonce text.length)))
def sealA (key nonce note text : Str) : Str × Int := if nonce.length ≠ 32 then ([], 4) else if 65536 ≤ note.length ∨ 65536 < text.length then ([], 5) else (sealS key nonce note text, 0)
def openA (key note s : Str) : Str × Int :=
  if s.length < 96 then ([], 3) else if 65632 < s.length ∨ 65536 ≤ note.length then ([], 5) else
  if sumS key note (s.take 32) ((s.drop 32).take (s.length - 96)) = s.drop (s.length - 64) then (xorL ((s.drop 32).take (s.length - 96)) (rowS key (s.take 32) (s.length - 96)), 0) else ([], 10)
def okL3 (s : Str) : Bool := Nat.ble s.length 1000000000000
def sSame : Summ where
  T := Bool
  run := fun
    | [.c (.s (.pl (.str a))), .c (.s (.pl (.str b)))] => cond (okLen a && okLen b) (some (decide (a = b))) none
    | _ => none
  enc := fun t => .bool t
def rSame : List AV → Option Bool := sSame.run
def eKeys (t : Str × Str) : AV := .c (.mix [.clo n_hmac_keyed_sum [.str t.1] [], .clo n_hmac_keyed_sum [.str t.2] []])
def sKeysOf : Summ where
  T := Str × Str
  run := fun
    | [.c (.s (.pl (.str a)))] => cond (okLen a) (some (wholeS (hideK a), wholeS (holdK a))) none
    | _ => none
  enc := eKeys
def rKeysOf : List AV → Option (Str × Str) := sKeysOf.run
def sKRow : Summ where
  T := Str
  run := fun
    | [.c (.mix [.clo f [.str a] [], .clo g [.str b] []]), .c (.s (.pl (.str nonce))), .c (.s (.pl (.int .i64 n)))] => cond (Nat.beq f n_hmac_keyed_sum && Nat.beq g n_hmac_keyed_sum && Nat.beq a.length 128 && okL3 nonce && decide (n < 4294967296)) (some (rowW a nonce n.toNat)) none
    | _ => none
  enc := fun t => .str t
def rKRow : List AV → Option Str := sKRow.run
def sKSum : Summ where
  T := Str
  run := fun
    | [.c (.mix [.clo f [.str a] [], .clo g [.str b] []]), .c (.s (.pl (.str note))), .c (.s (.pl (.str nonce))), .c (.s (.pl (.str h)))] => cond (Nat.beq f n_hmac_keyed_sum && Nat.beq g n_hmac_keyed_sum && Nat.beq b.length 128 && decide (note.length + nonce.length + h.length ≤ 1000000000000)) (some (hmacK b (cntL [note, nonce] ++ h))) none
    | _ => none
  enc := fun t => .str t
def rKSum : List AV → Option Str := sKSum.run
def sRow : Summ where
  T := Str
  run := fun
    | [.c (.s (.pl (.str k))), .c (.s (.pl (.str nonce))), .c (.s (.pl (.int .i64 n)))] => cond (okLen k && okL3 nonce && decide (n < 4294967296)) (some (rowS k nonce n.toNat)) none
    | _ => none
  enc := fun t => .str t
def rRow : List AV → Option Str := sRow.run
def sSize : Summ where
  T := Int
  run := fun
    | [.c (.s (.pl (.int .i64 n)))] => cond (decide (-4611686018427387904 ≤ n ∧ n < 4611686018427387904)) (some (n + 96)) none
    | _ => none
  enc := fun t => .int .i64 t
def rSize : List AV → Option Int := sSize.run
def sSeal : Summ where
  T := Str × Int
  run := fun
    | [.c (.s (.pl (.str k))), .c (.s (.pl (.str nonce))), .c (.s (.pl (.str note))), .c (.s (.pl (.str t)))] => cond (okLen k) (some (sealA k nonce note t)) none
    | _ => none
  enc := fun t => .tup [.s (.pl (.str t.1)), .s (.pl (.int .i64 t.2))]
def rSeal : List AV → Option (Str × Int) := sSeal.run
def sOpen : Summ where
  T := Str × Int
  run := fun
    | [.c (.s (.pl (.str k))), .c (.s (.pl (.str note))), .c (.s (.pl (.str t)))] => cond (okLen k) (some (openA k note t)) none
    | _ => none
  enc := fun t => .tup [.s (.pl (.str t.1)), .s (.pl (.int .i64 t.2))]
def rOpen : List AV → Option (Str × Int) := sOpen.run
def sRefSumS : Summ where
  T := Str
  run := fun
    | [.c (.s (.pl (.str k))), .c (.s (.pl (.str note))), .c (.s (.pl (.str nonce))), .c (.s (.pl (.str h)))] => cond (okLen k && decide (note.length + nonce.length + h.length ≤ 1000000000000)) (some (sumS k note nonce h)) none
    | _ => none
  enc := fun t => .str t
def rRefSumS : List AV → Option Str := sRefSumS.run
def sRefSeal : Summ where
  T := Str
  run := fun
    | [.c (.s (.pl (.str k))), .c (.s (.pl (.str nonce))), .c (.s (.pl (.str note))), .c (.s (.pl (.str t)))] => cond (okLen k && decide (note.length + nonce.length + t.length ≤ 1000000)) (some (sealS k nonce note t)) none
    | _ => none
  enc := fun t => .str t
def rRefSeal : List AV → Option Str := sRefSeal.run
end Go.Eng
/- GENERATED by gen.py: what the evaluator comes to at these functions. -/
namespace Go.Eng
open Go Go.Proofs
set_option linter.unusedVariables false
set_option linter.unusedSimpArgs false
noncomputable def g_SeSm : Cg := ⟨⟨gam [], [], noE⟩, [(6, [0, 1, 5, 13, 14], [5])]⟩
noncomputable def SeSm_s1 (s0 s1 : Str) (v5 v13 v14 : Int) : St :=
  { tm := [((0 : Nat), AV.str s0), ((1 : Nat), AV.str s1), ((5 : Nat), AV.int IntKind.u8 v5), ((13 : Nat), AV.int IntKind.i64 v13), ((14 : Nat), AV.int IntKind.i64 v14)], hp := [], nx := (0 : Nat), sz := (29 : Nat) }
noncomputable def SeSm_b1 : Code := bodyL (codeAt [1, 1, 1, 0, 1, 2] (codeF f_hmac_Same))
noncomputable def SeSm_k1 (fu : Nat) := kAt prog g_SeSm fu [1, 1, 1, 0, 1, 2] (codeF f_hmac_Same) (kFin prog f_hmac_Same)
noncomputable abbrev SeSm_L1 (fu : Nat) (s0 s1 : Str) (v5 v13 v14 : Int) := lpA prog g_SeSm fu SeSm_b1 (SeSm_k1 fu ) fu (some (SeSm_s1 s0 s1 v5 v13 v14))
theorem SeSm_ev (fu : Nat) (a b : Str) : afunc prog f_hmac_Same g_SeSm fu [AV.str a, AV.str b] =
  bif !decide ((↑(List.length a) : Int) = (↑(List.length b) : Int)) then some (AV.bool false) else SeSm_L1 fu a b (0 : Int) (↑(List.length a) : Int) (0 : Int) := by kernel_rfl
noncomputable def SeSm_o1e0 (v5 : Int) : St :=
  { tm := [((5 : Nat), AV.int IntKind.u8 v5)], hp := [], nx := (0 : Nat), sz := (29 : Nat) }
theorem SeSm_r1 {β : Type} (fu : Nat) (G : Option St → Option β) (H : Ex → Option St → Option β) (s0 s1 : Str) (v5 v13 v14 : Int) : lpR prog g_SeSm fu SeSm_b1 G H (SeSm_s1 s0 s1 v5 v13 v14) =
  bif decide (v14 < v13) then
    bif decide ((0 : Int) ≤ v14 ∧ v14 < (↑(List.length s0) : Int)) then
      bif decide ((0 : Int) ≤ v14 ∧ v14 < (↑(List.length s1) : Int)) then
        G
          (some
            (SeSm_s1 s0 s1 (bOr IntKind.u8 v5 (bXor IntKind.u8 (↑(List.getD s0 v14.toNat (0 : UInt8)).toNat : Int) (↑(List.getD s1 v14.toNat (0 : UInt8)).toNat : Int))) v13
              (IntKind.i64.wrap (v14 + (1 : Int)))))
      else none
    else none
  else H (Ex.exit (0 : Nat)) (some (SeSm_o1e0 v5)) := by kernel_rfl
theorem SeSm_c1e0 (fu : Nat) (v5 : Int) : SeSm_k1 fu  (Ex.exit 0) (SeSm_o1e0 v5) =
  some (AV.bool (decide (v5 = (0 : Int)))) := by kernel_rfl
noncomputable def g_SeOf (T0 : Type) (R0 : List AV → Option T0) (f0a : T0 → List UInt8) (T1 : Type) (R1 : List AV → Option T1) (f1a : T1 → List UInt8) : Cg := ⟨⟨gam [(n_hmac_Secret, ⟨R0, fun t => AV.str (f0a t)⟩), (n_hmac_With, ⟨R1, fun t => AV.s (SV.clo n_hmac_keyed_sum [Pl.str (f1a t)] [])⟩)], [], noE⟩, []⟩
section
variable (T0 : Type) (R0 : List AV → Option T0) (f0a : T0 → List UInt8) (T1 : Type) (R1 : List AV → Option T1) (f1a : T1 → List UInt8)
theorem SeOf_ev (fu : Nat) (a : Str) : afunc prog f_seal_of (g_SeOf T0 R0 f0a T1 R1 f1a) fu [AV.str a] =
  (R0 [AV.str a, AV.str [(69 : UInt8), (110 : UInt8), (99 : UInt8), (114 : UInt8), (121 : UInt8), (112 : UInt8), (116 : UInt8)], AV.str []]).bind fun (t : T0) =>
    (R1 [AV.str (f0a t)]).bind fun (t : T1) =>
      (R0
            [AV.str a,
              AV.str [(65 : UInt8), (117 : UInt8), (116 : UInt8), (104 : UInt8), (101 : UInt8), (110 : UInt8), (116 : UInt8), (105 : UInt8), (99 : UInt8), (97 : UInt8), (116 : UInt8), (101 : UInt8)],
              AV.str []]).bind
        fun (t_1 : T0) => (R1 [AV.str (f0a t_1)]).bind fun (t_2 : T1) => some (AV.c (CV.mix [SV.clo (136 : Nat) [Pl.str (f1a t)] [], SV.clo (136 : Nat) [Pl.str (f1a t_2)] []])) := by kernel_rfl
end
noncomputable def g_SeKR (T0 : Type) (R0 : List AV → Option T0) (f0a : T0 → List UInt8) : Cg := ⟨⟨gam [(n_hmac_keyed_sum, ⟨R0, fun t => AV.str (f0a t)⟩)], [], noE⟩, [(4, [1, 2, 3, 7, 8], [2, 7])]⟩
section
variable (T0 : Type) (R0 : List AV → Option T0) (f0a : T0 → List UInt8)
noncomputable def SeKR_s1 (s1 : Str) (v2 : Int) (s7 : List UInt8) (v8 : Int) (s_0_0_0 s_0_1_0 : Str) : St :=
  { tm := [((1 : Nat), AV.str s1), ((2 : Nat), AV.int IntKind.i64 v2), ((3 : Nat), AV.s (SV.ptr (0 : Nat) (0 : Nat) (2 : Nat))), ((7 : Nat), AV.str s7), ((8 : Nat), AV.int IntKind.i64 v8)], hp := [((0 : Nat), { ty := (144 : Nat), n := (2 : Nat), row := Row.mix [SV.clo (136 : Nat) [Pl.str s_0_0_0] [], SV.clo (136 : Nat) [Pl.str s_0_1_0] []] })], nx := (1 : Nat), sz := (39 : Nat) }
noncomputable def SeKR_b1 : Code := bodyL (codeAt [1, 1, 0, 1, 2] (codeF f_seal_keys_row))
noncomputable def SeKR_k1 (fu : Nat) := kAt prog (g_SeKR T0 R0 f0a) fu [1, 1, 0, 1, 2] (codeF f_seal_keys_row) (kFin prog f_seal_keys_row)
noncomputable abbrev SeKR_L1 (fu : Nat) (s1 : Str) (v2 : Int) (s7 : List UInt8) (v8 : Int) (s_0_0_0 s_0_1_0 : Str) := lpA prog (g_SeKR T0 R0 f0a) fu SeKR_b1 (SeKR_k1 T0 R0 f0a fu ) fu (some (SeKR_s1 s1 v2 s7 v8 s_0_0_0 s_0_1_0))
theorem SeKR_ev (fu : Nat) (a b nonce : Str) (n : Int) : afunc prog f_seal_keys_row (g_SeKR T0 R0 f0a) fu [eKeys (a, b), AV.str nonce, AV.int IntKind.i64 n] =
  SeKR_L1 T0 R0 f0a fu nonce n [] (0 : Int) a b := by kernel_rfl
noncomputable def SeKR_o1e0 (v2 : Int) (s7 : List UInt8) : St :=
  { tm := [((2 : Nat), AV.int IntKind.i64 v2), ((7 : Nat), AV.str s7)], hp := [], nx := (0 : Nat), sz := (39 : Nat) }
theorem SeKR_r1 {β : Type} (fu : Nat) (G : Option St → Option β) (H : Ex → Option St → Option β) (s1 : Str) (v2 : Int) (s7 : List UInt8) (v8 : Int) (s_0_0_0 s_0_1_0 : Str) : lpR prog (g_SeKR T0 R0 f0a) fu SeKR_b1 G H (SeKR_s1 s1 v2 s7 v8 s_0_0_0 s_0_1_0) =
  bif decide ((↑s7.length : Int) < v2) then
    (R0
          [AV.str s_0_0_0,
            AV.s
              (SV.dat
                (TRow.strs
                  ([s1] ++
                    [List.map b8
                        ([IntKind.u8.wrap (bShr IntKind.i64 v8 (24 : Int))] ++
                          ([IntKind.u8.wrap (bShr IntKind.i64 v8 (16 : Int))] ++ ([IntKind.u8.wrap (bShr IntKind.i64 v8 (8 : Int))] ++ [IntKind.u8.wrap v8])))]))
                (2 : Nat) (1 : Nat))]).bind
      fun (t : T0) => bif decide (s7.length + (f0a t).length ≤ (9223372036854775807 : Nat)) then G (some (SeKR_s1 s1 v2 (s7 ++ f0a t) (IntKind.i64.wrap (v8 + (1 : Int))) s_0_0_0 s_0_1_0)) else none
  else H (Ex.exit (0 : Nat)) (some (SeKR_o1e0 v2 s7)) := by kernel_rfl
theorem SeKR_c1e0 (fu : Nat) (v2 : Int) (s7 : List UInt8) : SeKR_k1 T0 R0 f0a fu  (Ex.exit 0) (SeKR_o1e0 v2 s7) =
  bif decide ((0 : Int) ≤ (0 : Int) ∧ ((0 : Int) ≤ if (0 : Int) > v2 then (0 : Int) else v2) ∧ (if (0 : Int) > v2 then (0 : Int) else v2) ≤ (↑s7.length : Int)) then
    some (AV.str (sl s7 (0 : Int) (if (0 : Int) > v2 then (0 : Int) else v2)))
  else none := by kernel_rfl
end
noncomputable def g_SeKS (T0 : Type) (R0 : List AV → Option T0) (f0a : T0 → List UInt8) (T1 : Type) (R1 : List AV → Option T1) (f1a : T1 → List UInt8) : Cg := ⟨⟨gam [(n_sha_Counted, ⟨R0, fun t => AV.str (f0a t)⟩), (n_hmac_keyed_sum, ⟨R1, fun t => AV.str (f1a t)⟩)], [], noE⟩, []⟩
section
variable (T0 : Type) (R0 : List AV → Option T0) (f0a : T0 → List UInt8) (T1 : Type) (R1 : List AV → Option T1) (f1a : T1 → List UInt8)
theorem SeKS_ev (fu : Nat) (a b note nonce h : Str) : afunc prog f_seal_keys_sum (g_SeKS T0 R0 f0a T1 R1 f1a) fu [eKeys (a, b), AV.str note, AV.str nonce, AV.str h] =
  (R0 [AV.s (SV.dat (TRow.strs ([note] ++ [nonce])) (2 : Nat) (1 : Nat))]).bind fun (t : T0) =>
    (R1 [AV.str b, AV.s (SV.dat (TRow.strs ([f0a t] ++ [h])) (2 : Nat) (1 : Nat))]).bind fun (t : T1) => some (AV.str (f1a t)) := by kernel_rfl
end
noncomputable def g_SeRo (T0 : Type) (R0 : List AV → Option T0) (f0a : T0 → Str) (f0b : T0 → Str) (T1 : Type) (R1 : List AV → Option T1) (f1a : T1 → List UInt8) : Cg := ⟨⟨gam [(n_seal_of, ⟨R0, fun t => AV.c (CV.mix [SV.clo n_hmac_keyed_sum [Pl.str (f0a t)] [], SV.clo n_hmac_keyed_sum [Pl.str (f0b t)] []])⟩), (n_seal_keys_row, ⟨R1, fun t => AV.str (f1a t)⟩)], [], noE⟩, []⟩
section
variable (T0 : Type) (R0 : List AV → Option T0) (f0a : T0 → Str) (f0b : T0 → Str) (T1 : Type) (R1 : List AV → Option T1) (f1a : T1 → List UInt8)
theorem SeRo_ev (fu : Nat) (k nonce : Str) (n : Int) : afunc prog f_seal_Row (g_SeRo T0 R0 f0a f0b T1 R1 f1a) fu [AV.str k, AV.str nonce, AV.int IntKind.i64 n] =
  (R0 [AV.str k]).bind fun (t : T0) =>
    (R1 [AV.c (CV.mix [SV.clo (136 : Nat) [Pl.str (f0a t)] [], SV.clo (136 : Nat) [Pl.str (f0b t)] []]), AV.str nonce, AV.int IntKind.i64 n]).bind fun (t : T1) => some (AV.str (f1a t)) := by kernel_rfl
end
noncomputable def g_SeSz : Cg := ⟨⟨gam [], [], noE⟩, []⟩
theorem SeSz_ev (fu : Nat) (n : Int) : afunc prog f_seal_Size g_SeSz fu [AV.int IntKind.i64 n] =
  some (AV.int IntKind.i64 (IntKind.i64.wrap (n + (96 : Int)))) := by kernel_rfl
noncomputable def g_SeSe (T0 : Type) (R0 : List AV → Option T0) (f0a : T0 → Str) (f0b : T0 → Str) (T1 : Type) (R1 : List AV → Option T1) (f1a : T1 → List UInt8) (T2 : Type) (R2 : List AV → Option T2) (f2a : T2 → List UInt8) (T3 : Type) (R3 : List AV → Option T3) (f3a : T3 → List UInt8) : Cg := ⟨⟨gam [(n_seal_of, ⟨R0, fun t => AV.c (CV.mix [SV.clo n_hmac_keyed_sum [Pl.str (f0a t)] [], SV.clo n_hmac_keyed_sum [Pl.str (f0b t)] []])⟩), (n_seal_keys_row, ⟨R1, fun t => AV.str (f1a t)⟩), (n_xmd_Xor, ⟨R2, fun t => AV.str (f2a t)⟩), (n_seal_keys_sum, ⟨R3, fun t => AV.str (f3a t)⟩)], [], noE⟩, []⟩
section
variable (T0 : Type) (R0 : List AV → Option T0) (f0a : T0 → Str) (f0b : T0 → Str) (T1 : Type) (R1 : List AV → Option T1) (f1a : T1 → List UInt8) (T2 : Type) (R2 : List AV → Option T2) (f2a : T2 → List UInt8) (T3 : Type) (R3 : List AV → Option T3) (f3a : T3 → List UInt8)
theorem SeSe_ev (fu : Nat) (k nonce note t : Str) : afunc prog f_seal_Seal (g_SeSe T0 R0 f0a f0b T1 R1 f1a T2 R2 f2a T3 R3 f3a) fu [AV.str k, AV.str nonce, AV.str note, AV.str t] =
  bif !decide ((↑(List.length nonce) : Int) = (32 : Int)) then some (AV.tup [CV.s (SV.pl (Pl.str [])), CV.s (SV.pl (Pl.int IntKind.i64 (4 : Int)))])
  else
    bif decide ((65536 : Int) ≤ (↑(List.length note) : Int)) then some (AV.tup [CV.s (SV.pl (Pl.str [])), CV.s (SV.pl (Pl.int IntKind.i64 (5 : Int)))])
    else
      bif decide ((65536 : Int) < (↑(List.length t) : Int)) then some (AV.tup [CV.s (SV.pl (Pl.str [])), CV.s (SV.pl (Pl.int IntKind.i64 (5 : Int)))])
      else
        (R0 [AV.str k]).bind fun (t_1 : T0) =>
          (R1 [AV.c (CV.mix [SV.clo (136 : Nat) [Pl.str (f0a t_1)] [], SV.clo (136 : Nat) [Pl.str (f0b t_1)] []]), AV.str nonce, AV.int IntKind.i64 (↑(List.length t) : Int)]).bind fun (t_2 : T1) =>
            (R2 [AV.str t, AV.str (f1a t_2)]).bind fun (t : T2) =>
              bif decide (List.length nonce + (f2a t).length ≤ (9223372036854775807 : Nat)) then
                (R3 [AV.c (CV.mix [SV.clo (136 : Nat) [Pl.str (f0a t_1)] [], SV.clo (136 : Nat) [Pl.str (f0b t_1)] []]), AV.str note, AV.str nonce, AV.str (f2a t)]).bind fun (t_3 : T3) =>
                  bif decide (List.length (nonce ++ f2a t) + (f3a t_3).length ≤ (9223372036854775807 : Nat)) then
                    some (AV.tup [CV.s (SV.pl (Pl.str (nonce ++ f2a t ++ f3a t_3))), CV.s (SV.pl (Pl.int IntKind.i64 (0 : Int)))])
                  else none
              else none := by kernel_rfl
end
noncomputable def g_SeOp (T0 : Type) (R0 : List AV → Option T0) (f0a : T0 → Str) (f0b : T0 → Str) (T1 : Type) (R1 : List AV → Option T1) (f1a : T1 → List UInt8) (T2 : Type) (R2 : List AV → Option T2) (f2a : T2 → Bool) (T3 : Type) (R3 : List AV → Option T3) (f3a : T3 → List UInt8) (T4 : Type) (R4 : List AV → Option T4) (f4a : T4 → List UInt8) : Cg := ⟨⟨gam [(n_seal_of, ⟨R0, fun t => AV.c (CV.mix [SV.clo n_hmac_keyed_sum [Pl.str (f0a t)] [], SV.clo n_hmac_keyed_sum [Pl.str (f0b t)] []])⟩), (n_seal_keys_sum, ⟨R1, fun t => AV.str (f1a t)⟩), (n_hmac_Same, ⟨R2, fun t => AV.bool (f2a t)⟩), (n_seal_keys_row, ⟨R3, fun t => AV.str (f3a t)⟩), (n_xmd_Xor, ⟨R4, fun t => AV.str (f4a t)⟩)], [], noE⟩, []⟩
section
variable (T0 : Type) (R0 : List AV → Option T0) (f0a : T0 → Str) (f0b : T0 → Str) (T1 : Type) (R1 : List AV → Option T1) (f1a : T1 → List UInt8) (T2 : Type) (R2 : List AV → Option T2) (f2a : T2 → Bool) (T3 : Type) (R3 : List AV → Option T3) (f3a : T3 → List UInt8) (T4 : Type) (R4 : List AV → Option T4) (f4a : T4 → List UInt8)
theorem SeOp_ev (fu : Nat) (k note t : Str) : afunc prog f_seal_Open (g_SeOp T0 R0 f0a f0b T1 R1 f1a T2 R2 f2a T3 R3 f3a T4 R4 f4a) fu [AV.str k, AV.str note, AV.str t] =
  bif decide ((↑(List.length t) : Int) < (96 : Int)) then some (AV.tup [CV.s (SV.pl (Pl.str [])), CV.s (SV.pl (Pl.int IntKind.i64 (3 : Int)))])
  else
    bif decide ((65632 : Int) < (↑(List.length t) : Int)) then some (AV.tup [CV.s (SV.pl (Pl.str [])), CV.s (SV.pl (Pl.int IntKind.i64 (5 : Int)))])
    else
      bif decide ((65536 : Int) ≤ (↑(List.length note) : Int)) then some (AV.tup [CV.s (SV.pl (Pl.str [])), CV.s (SV.pl (Pl.int IntKind.i64 (5 : Int)))])
      else
        (R0 [AV.str k]).bind fun (t_1 : T0) =>
          bif decide ((0 : Int) ≤ (0 : Int) ∧ (0 : Int) ≤ (32 : Int) ∧ (32 : Int) ≤ (↑(List.length t) : Int)) then
            bif
                decide
                  ((0 : Int) ≤ (32 : Int) ∧
                    (32 : Int) ≤ IntKind.i64.wrap ((↑(List.length t) : Int) - (64 : Int)) ∧ IntKind.i64.wrap ((↑(List.length t) : Int) - (64 : Int)) ≤ (↑(List.length t) : Int)) then
              (R1
                    [AV.c (CV.mix [SV.clo (136 : Nat) [Pl.str (f0a t_1)] [], SV.clo (136 : Nat) [Pl.str (f0b t_1)] []]), AV.str note, AV.str (sl t (0 : Int) (32 : Int)),
                      AV.str (sl t (32 : Int) (IntKind.i64.wrap ((↑(List.length t) : Int) - (64 : Int))))]).bind
                fun (t_2 : T1) =>
                bif
                    decide
                      ((0 : Int) ≤ IntKind.i64.wrap ((↑(List.length t) : Int) - (64 : Int)) ∧
                        IntKind.i64.wrap ((↑(List.length t) : Int) - (64 : Int)) ≤ (↑(List.length t) : Int) ∧ (↑(List.length t) : Int) ≤ (↑(List.length t) : Int)) then
                  (R2 [AV.str (f1a t_2), AV.str (sl t (IntKind.i64.wrap ((↑(List.length t) : Int) - (64 : Int))) (↑(List.length t) : Int))]).bind fun (t_3 : T2) =>
                    bif !f2a t_3 then some (AV.tup [CV.s (SV.pl (Pl.str [])), CV.s (SV.pl (Pl.int IntKind.i64 (10 : Int)))])
                    else
                      (R3
                            [AV.c (CV.mix [SV.clo (136 : Nat) [Pl.str (f0a t_1)] [], SV.clo (136 : Nat) [Pl.str (f0b t_1)] []]), AV.str (sl t (0 : Int) (32 : Int)),
                              AV.int IntKind.i64 (↑(sl t (32 : Int) (IntKind.i64.wrap ((↑(List.length t) : Int) - (64 : Int)))).length : Int)]).bind
                        fun (t_4 : T3) =>
                        (R4 [AV.str (sl t (32 : Int) (IntKind.i64.wrap ((↑(List.length t) : Int) - (64 : Int)))), AV.str (f3a t_4)]).bind fun (t : T4) =>
                          some (AV.tup [CV.s (SV.pl (Pl.str (f4a t))), CV.s (SV.pl (Pl.int IntKind.i64 (0 : Int)))])
                else none
            else none
          else none := by kernel_rfl
end
noncomputable def g_SrRo (T0 : Type) (R0 : List AV → Option T0) (f0a : T0 → List UInt8) (T1 : Type) (R1 : List AV → Option T1) (f1a : T1 → List UInt8) (T2 : Type) (R2 : List AV → Option T2) (f2a : T2 → List UInt8) : Cg := ⟨⟨gam [(n_opalineref03_Label, ⟨R0, fun t => AV.str (f0a t)⟩), (n_opalineref02_Two, ⟨R1, fun t => AV.str (f1a t)⟩), (n_opalineref03_Sum, ⟨R2, fun t => AV.str (f2a t)⟩)], [], noE⟩, [(5, [1, 2, 7, 8, 9], [2, 8])]⟩
section
variable (T0 : Type) (R0 : List AV → Option T0) (f0a : T0 → List UInt8) (T1 : Type) (R1 : List AV → Option T1) (f1a : T1 → List UInt8) (T2 : Type) (R2 : List AV → Option T2) (f2a : T2 → List UInt8)
noncomputable def SrRo_s1 (s1 : Str) (v2 : Int) (s7 s8 : List UInt8) (v9 : Int) : St :=
  { tm := [((1 : Nat), AV.str s1), ((2 : Nat), AV.int IntKind.i64 v2), ((7 : Nat), AV.str s7), ((8 : Nat), AV.str s8), ((9 : Nat), AV.int IntKind.i64 v9)], hp := [], nx := (0 : Nat), sz := (36 : Nat) }
noncomputable def SrRo_b1 : Code := bodyL (codeAt [1, 1, 1, 0, 1, 2] (codeF f_opalineref09_Row))
noncomputable def SrRo_k1 (fu : Nat) := kAt prog (g_SrRo T0 R0 f0a T1 R1 f1a T2 R2 f2a) fu [1, 1, 1, 0, 1, 2] (codeF f_opalineref09_Row) (kFin prog f_opalineref09_Row)
noncomputable abbrev SrRo_L1 (fu : Nat) (s1 : Str) (v2 : Int) (s7 s8 : List UInt8) (v9 : Int) := lpA prog (g_SrRo T0 R0 f0a T1 R1 f1a T2 R2 f2a) fu SrRo_b1 (SrRo_k1 T0 R0 f0a T1 R1 f1a T2 R2 f2a fu ) fu (some (SrRo_s1 s1 v2 s7 s8 v9))
theorem SrRo_ev (fu : Nat) (k nonce : Str) (n : Int) : afunc prog f_opalineref09_Row (g_SrRo T0 R0 f0a T1 R1 f1a T2 R2 f2a) fu [AV.str k, AV.str nonce, AV.int IntKind.i64 n] =
  (R0 [AV.str k, AV.str [(69 : UInt8), (110 : UInt8), (99 : UInt8), (114 : UInt8), (121 : UInt8), (112 : UInt8), (116 : UInt8)], AV.str [], AV.int IntKind.i64 (64 : Int)]).bind fun (t : T0) =>
    SrRo_L1 T0 R0 f0a T1 R1 f1a T2 R2 f2a fu nonce n (f0a t) [] (0 : Int) := by kernel_rfl
noncomputable def SrRo_o1e0 (v2 : Int) (s8 : List UInt8) : St :=
  { tm := [((2 : Nat), AV.int IntKind.i64 v2), ((8 : Nat), AV.str s8)], hp := [], nx := (0 : Nat), sz := (36 : Nat) }
theorem SrRo_r1 {β : Type} (fu : Nat) (G : Option St → Option β) (H : Ex → Option St → Option β) (s1 : Str) (v2 : Int) (s7 s8 : List UInt8) (v9 : Int) : lpR prog (g_SrRo T0 R0 f0a T1 R1 f1a T2 R2 f2a) fu SrRo_b1 G H (SrRo_s1 s1 v2 s7 s8 v9) =
  bif decide ((↑s8.length : Int) < v2) then
    (R1 [AV.int IntKind.i64 (IntKind.i64.wrap (v9.tdiv (65536 : Int)))]).bind fun (t : T1) =>
      bif decide (List.length s1 + (f1a t).length ≤ (9223372036854775807 : Nat)) then
        (R1 [AV.int IntKind.i64 (v9.tmod (65536 : Int))]).bind fun (t_1 : T1) =>
          bif decide (List.length (s1 ++ f1a t) + (f1a t_1).length ≤ (9223372036854775807 : Nat)) then
            (R2 [AV.str s7, AV.str (s1 ++ f1a t ++ f1a t_1)]).bind fun (t : T2) =>
              bif decide (s8.length + (f2a t).length ≤ (9223372036854775807 : Nat)) then G (some (SrRo_s1 s1 v2 s7 (s8 ++ f2a t) (IntKind.i64.wrap (v9 + (1 : Int))))) else none
          else none
      else none
  else H (Ex.exit (0 : Nat)) (some (SrRo_o1e0 v2 s8)) := by kernel_rfl
theorem SrRo_c1e0 (fu : Nat) (v2 : Int) (s8 : List UInt8) : SrRo_k1 T0 R0 f0a T1 R1 f1a T2 R2 f2a fu  (Ex.exit 0) (SrRo_o1e0 v2 s8) =
  bif decide (v2 < (0 : Int)) then some (AV.str (sl s8 (0 : Int) (0 : Int)))
  else bif decide ((0 : Int) ≤ (0 : Int) ∧ (0 : Int) ≤ v2 ∧ v2 ≤ (↑s8.length : Int)) then some (AV.str (sl s8 (0 : Int) v2)) else none := by kernel_rfl
end
noncomputable def g_SrSu (T0 : Type) (R0 : List AV → Option T0) (f0a : T0 → List UInt8) (T1 : Type) (R1 : List AV → Option T1) (f1a : T1 → List UInt8) (T2 : Type) (R2 : List AV → Option T2) (f2a : T2 → List UInt8) : Cg := ⟨⟨gam [(n_opalineref03_Label, ⟨R0, fun t => AV.str (f0a t)⟩), (n_opalineref02_Two, ⟨R1, fun t => AV.str (f1a t)⟩), (n_opalineref03_Sum, ⟨R2, fun t => AV.str (f2a t)⟩)], [], noE⟩, []⟩
section
variable (T0 : Type) (R0 : List AV → Option T0) (f0a : T0 → List UInt8) (T1 : Type) (R1 : List AV → Option T1) (f1a : T1 → List UInt8) (T2 : Type) (R2 : List AV → Option T2) (f2a : T2 → List UInt8)
theorem SrSu_ev (fu : Nat) (k note nonce h : Str) : afunc prog f_opalineref09_Sum (g_SrSu T0 R0 f0a T1 R1 f1a T2 R2 f2a) fu [AV.str k, AV.str note, AV.str nonce, AV.str h] =
  (R0
        [AV.str k,
          AV.str [(65 : UInt8), (117 : UInt8), (116 : UInt8), (104 : UInt8), (101 : UInt8), (110 : UInt8), (116 : UInt8), (105 : UInt8), (99 : UInt8), (97 : UInt8), (116 : UInt8), (101 : UInt8)],
          AV.str [], AV.int IntKind.i64 (64 : Int)]).bind
    fun (t : T0) =>
    (R1 [AV.int IntKind.i64 (↑(List.length note) : Int)]).bind fun (t_1 : T1) =>
      bif decide ((f1a t_1).length + List.length note ≤ (9223372036854775807 : Nat)) then
        (R1 [AV.int IntKind.i64 (↑(List.length nonce) : Int)]).bind fun (t_2 : T1) =>
          bif decide (List.length (f1a t_1 ++ note) + (f1a t_2).length ≤ (9223372036854775807 : Nat)) then
            bif decide (List.length (f1a t_1 ++ note ++ f1a t_2) + List.length nonce ≤ (9223372036854775807 : Nat)) then
              bif decide (List.length (f1a t_1 ++ note ++ f1a t_2 ++ nonce) + List.length h ≤ (9223372036854775807 : Nat)) then
                (R2 [AV.str (f0a t), AV.str (f1a t_1 ++ note ++ f1a t_2 ++ nonce ++ h)]).bind fun (t : T2) => some (AV.str (f2a t))
              else none
            else none
          else none
      else none := by kernel_rfl
end
noncomputable def g_SrSe (T0 : Type) (R0 : List AV → Option T0) (f0a : T0 → List UInt8) (T1 : Type) (R1 : List AV → Option T1) (f1a : T1 → List UInt8) : Cg := ⟨⟨gam [(n_opalineref09_Row, ⟨R0, fun t => AV.str (f0a t)⟩), (n_opalineref09_Sum, ⟨R1, fun t => AV.str (f1a t)⟩)], [], noE⟩, [(5, [0, 1, 2, 3, 9, 10, 11], [0, 1, 2, 10])]⟩
section
variable (T0 : Type) (R0 : List AV → Option T0) (f0a : T0 → List UInt8) (T1 : Type) (R1 : List AV → Option T1) (f1a : T1 → List UInt8)
noncomputable def SrSe_s1 (s0 s1 s2 s3 : Str) (s9 : List UInt8) (n10 : Nat) (v11 : Int) (m_0 : Nat) (x_0 : List Int) : St :=
  { tm := [((0 : Nat), AV.str s0), ((1 : Nat), AV.str s1), ((2 : Nat), AV.str s2), ((3 : Nat), AV.str s3), ((9 : Nat), AV.str s9), ((10 : Nat), AV.s (SV.own (0 : Nat) n10 (1 : Nat))), ((11 : Nat), AV.int IntKind.i64 v11)], hp := [((0 : Nat), { ty := (5 : Nat), n := m_0, row := Row.t (TRow.ints IntKind.u8 x_0) })], nx := (1 : Nat), sz := (47 : Nat) }
noncomputable def SrSe_b1 : Code := bodyL (codeAt [1, 1, 1, 0, 1, 2] (codeF f_opalineref09_Seal))
noncomputable def SrSe_k1 (fu : Nat) := kAt prog (g_SrSe T0 R0 f0a T1 R1 f1a) fu [1, 1, 1, 0, 1, 2] (codeF f_opalineref09_Seal) (kFin prog f_opalineref09_Seal)
noncomputable abbrev SrSe_L1 (fu : Nat) (s0 s1 s2 s3 : Str) (s9 : List UInt8) (n10 : Nat) (v11 : Int) (m_0 : Nat) (x_0 : List Int) := lpA prog (g_SrSe T0 R0 f0a T1 R1 f1a) fu SrSe_b1 (SrSe_k1 T0 R0 f0a T1 R1 f1a fu ) fu (some (SrSe_s1 s0 s1 s2 s3 s9 n10 v11 m_0 x_0))
theorem SrSe_ev (fu : Nat) (k nonce note t : Str) : afunc prog f_opalineref09_Seal (g_SrSe T0 R0 f0a T1 R1 f1a) fu [AV.str k, AV.str nonce, AV.str note, AV.str t] =
  (R0 [AV.str k, AV.str nonce, AV.int IntKind.i64 (↑(List.length t) : Int)]).bind fun (t_1 : T0) =>
    bif decide ((0 : Int) ≤ (↑(List.length t) : Int) ∧ (↑(List.length t) : Int) ≤ (↑(List.length t) : Int) ∧ (↑(List.length t) : Int) ≤ (1099511627776 : Int)) then
      SrSe_L1 T0 R0 f0a T1 R1 f1a fu k nonce note t (f0a t_1) (↑(List.length t) : Int).toNat (0 : Int) ((↑(List.length t) : Int).toNat * (1 : Nat))
        (List.replicate (↑(List.length t) : Int).toNat (0 : Int))
    else none := by kernel_rfl
noncomputable def SrSe_o1e0 (s0 s1 s2 : Str) (n10 m_0 : Nat) (x_0 : List Int) : St :=
  { tm := [((0 : Nat), AV.str s0), ((1 : Nat), AV.str s1), ((2 : Nat), AV.str s2), ((10 : Nat), AV.s (SV.own (0 : Nat) n10 (1 : Nat)))], hp := [((0 : Nat), { ty := (5 : Nat), n := m_0, row := Row.t (TRow.ints IntKind.u8 x_0) })], nx := (1 : Nat), sz := (47 : Nat) }
theorem SrSe_r1 {β : Type} (fu : Nat) (G : Option St → Option β) (H : Ex → Option St → Option β) (s0 s1 s2 s3 : Str) (s9 : List UInt8) (n10 : Nat) (v11 : Int) (m_0 : Nat) (x_0 : List Int) : lpR prog (g_SrSe T0 R0 f0a T1 R1 f1a) fu SrSe_b1 G H (SrSe_s1 s0 s1 s2 s3 s9 n10 v11 m_0 x_0) =
  bif decide (v11 < (↑(List.length s3) : Int)) then
    bif decide ((0 : Int) ≤ v11 ∧ v11 < (↑(List.length s3) : Int)) then
      bif decide ((0 : Int) ≤ v11 ∧ v11 < (↑s9.length : Int)) then
        bif decide ((0 : Int) ≤ v11 ∧ v11 < (↑n10 : Int)) then
          G
            (some
              (SrSe_s1 s0 s1 s2 s3 s9 n10 (IntKind.i64.wrap (v11 + (1 : Int))) m_0
                (x_0.set v11.toNat (bXor IntKind.u8 (↑(List.getD s3 v11.toNat (0 : UInt8)).toNat : Int) (↑(s9.getD v11.toNat (0 : UInt8)).toNat : Int)))))
        else none
      else none
    else none
  else H (Ex.exit (0 : Nat)) (some (SrSe_o1e0 s0 s1 s2 n10 m_0 x_0)) := by kernel_rfl
theorem SrSe_c1e0 (fu : Nat) (s0 s1 s2 : Str) (n10 m_0 : Nat) (x_0 : List Int) : SrSe_k1 T0 R0 f0a T1 R1 f1a fu  (Ex.exit 0) (SrSe_o1e0 s0 s1 s2 n10 m_0 x_0) =
  bif decide (List.length s1 + (List.map b8 x_0).length ≤ (9223372036854775807 : Nat)) then
    (R1 [AV.str s0, AV.str s2, AV.str s1, AV.str (List.map b8 x_0)]).bind fun (t : T1) =>
      bif decide (List.length (s1 ++ List.map b8 x_0) + (f1a t).length ≤ (9223372036854775807 : Nat)) then some (AV.str (s1 ++ List.map b8 x_0 ++ f1a t)) else none
  else none := by kernel_rfl
end
noncomputable def g_SeAw (T0 : Type) (R0 : List AV → Option T0) (f0a : T0 → Int) (T1 : Type) (R1 : List AV → Option T1) (T2 : Type) (R2 : List AV → Option T2) (T3 : Type) (R3 : List AV → Option T3) (f3a : T3 → Str) (f3b : T3 → Int) (T4 : Type) (R4 : List AV → Option T4) (f4a : T4 → Str) (f4b : T4 → Int) : Cg := ⟨⟨gam [(n_seal_Size, ⟨R0, fun t => AV.int IntKind.i64 (f0a t)⟩), (n_opalinelaw03_Awake, ⟨R1, fun t => AV.bool (true)⟩), (n_opalinelaw04_Awake, ⟨R2, fun t => AV.bool (true)⟩), (n_seal_Seal, ⟨R3, fun t => AV.tup [CV.s (SV.pl (Pl.str (f3a t))), CV.s (SV.pl (Pl.int IntKind.i64 (f3b t)))]⟩), (n_seal_Open, ⟨R4, fun t => AV.tup [CV.s (SV.pl (Pl.str (f4a t))), CV.s (SV.pl (Pl.int IntKind.i64 (f4b t)))]⟩)], [], noE⟩, []⟩
section
variable (T0 : Type) (R0 : List AV → Option T0) (f0a : T0 → Int) (T1 : Type) (R1 : List AV → Option T1) (T2 : Type) (R2 : List AV → Option T2) (T3 : Type) (R3 : List AV → Option T3) (f3a : T3 → Str) (f3b : T3 → Int) (T4 : Type) (R4 : List AV → Option T4) (f4a : T4 → Str) (f4b : T4 → Int)
theorem SeAw_ev (fu : Nat) : afunc prog f_opalinelaw09_awake (g_SeAw T0 R0 f0a T1 R1 T2 R2 T3 R3 f3a f3b T4 R4 f4a f4b) fu [] =
  (R0 [AV.int IntKind.i64 (0 : Int)]).bind fun (t : T0) =>
    bif !decide (f0a t = (96 : Int)) then some (AV.bool false)
    else
      (R1 []).bind fun (t : T1) =>
        (R2 []).bind fun (t : T2) =>
          (R3
                [AV.str [(107 : UInt8), (101 : UInt8), (121 : UInt8)], AV.str (List.map b8 (List.replicate (32 : Nat) (0 : Int))), AV.str [(110 : UInt8), (111 : UInt8), (116 : UInt8), (101 : UInt8)],
                  AV.str [(116 : UInt8), (101 : UInt8), (120 : UInt8), (116 : UInt8)]]).bind
            fun (t : T3) =>
            (R4 [AV.str [(107 : UInt8), (101 : UInt8), (121 : UInt8)], AV.str [(110 : UInt8), (111 : UInt8), (116 : UInt8), (101 : UInt8)], AV.str (f3a t)]).bind fun (t_1 : T4) =>
              bif decide (f3b t = (0 : Int)) then
                some (AV.bool (decide ((↑(List.length (f3a t)) : Int) = (100 : Int)) && decide (f4b t_1 = (0 : Int)) && decide (f4a t_1 = [(116 : UInt8), (101 : UInt8), (120 : UInt8), (116 : UInt8)])))
              else some (AV.bool false) := by kernel_rfl
end
noncomputable def g_SeLO (T0 : Type) (R0 : List AV → Option T0) (T1 : Type) (R1 : List AV → Option T1) (f1a : T1 → Str) (f1b : T1 → Int) (T2 : Type) (R2 : List AV → Option T2) (f2a : T2 → List UInt8) (T3 : Type) (R3 : List AV → Option T3) (f3a : T3 → List UInt8) : Cg := ⟨⟨gam [(n_opalinelaw09_awake, ⟨R0, fun t => AV.bool (true)⟩), (n_seal_Open, ⟨R1, fun t => AV.tup [CV.s (SV.pl (Pl.str (f1a t))), CV.s (SV.pl (Pl.int IntKind.i64 (f1b t)))]⟩), (n_opalineref09_Sum, ⟨R2, fun t => AV.str (f2a t)⟩), (n_opalineref09_Seal, ⟨R3, fun t => AV.str (f3a t)⟩)], [], noE⟩, []⟩
section
variable (T0 : Type) (R0 : List AV → Option T0) (T1 : Type) (R1 : List AV → Option T1) (f1a : T1 → Str) (f1b : T1 → Int) (T2 : Type) (R2 : List AV → Option T2) (f2a : T2 → List UInt8) (T3 : Type) (R3 : List AV → Option T3) (f3a : T3 → List UInt8)
theorem SeLO_ev (fu : Nat) (k note t : Str) : afunc prog f_opalinelaw09_SealOpens (g_SeLO T0 R0 T1 R1 f1a f1b T2 R2 f2a T3 R3 f3a) fu [AV.str k, AV.str note, AV.str t] =
  (R0 []).bind fun (t_1 : T0) =>
    bif
        decide
          ((500 : Int) <
            if (↑(List.length t) : Int) > if (↑(List.length note) : Int) > (↑(List.length k) : Int) then (↑(List.length note) : Int) else (↑(List.length k) : Int) then (↑(List.length t) : Int)
            else if (↑(List.length note) : Int) > (↑(List.length k) : Int) then (↑(List.length note) : Int) else (↑(List.length k) : Int)) then
      some (AV.bool true)
    else
      (R1 [AV.str k, AV.str note, AV.str t]).bind fun (t_2 : T1) =>
        bif decide ((↑(List.length t) : Int) < (96 : Int)) then some (AV.bool (decide (f1b t_2 = (3 : Int)) && decide (f1a t_2 = [])))
        else
          bif decide ((0 : Int) ≤ (0 : Int) ∧ (0 : Int) ≤ (32 : Int) ∧ (32 : Int) ≤ (↑(List.length t) : Int)) then
            bif
                decide
                  ((0 : Int) ≤ (32 : Int) ∧
                    (32 : Int) ≤ IntKind.i64.wrap ((↑(List.length t) : Int) - (64 : Int)) ∧ IntKind.i64.wrap ((↑(List.length t) : Int) - (64 : Int)) ≤ (↑(List.length t) : Int)) then
              (R2 [AV.str k, AV.str note, AV.str (sl t (0 : Int) (32 : Int)), AV.str (sl t (32 : Int) (IntKind.i64.wrap ((↑(List.length t) : Int) - (64 : Int))))]).bind fun (t_3 : T2) =>
                bif
                    decide
                      ((0 : Int) ≤ IntKind.i64.wrap ((↑(List.length t) : Int) - (64 : Int)) ∧
                        IntKind.i64.wrap ((↑(List.length t) : Int) - (64 : Int)) ≤ (↑(List.length t) : Int) ∧ (↑(List.length t) : Int) ≤ (↑(List.length t) : Int)) then
                  bif !decide (f2a t_3 = sl t (IntKind.i64.wrap ((↑(List.length t) : Int) - (64 : Int))) (↑(List.length t) : Int)) then
                    some (AV.bool (decide (f1b t_2 = (10 : Int)) && decide (f1a t_2 = [])))
                  else
                    bif decide (f1b t_2 = (0 : Int)) then (R3 [AV.str k, AV.str (sl t (0 : Int) (32 : Int)), AV.str note, AV.str (f1a t_2)]).bind fun (t_4 : T3) => some (AV.bool (decide (f3a t_4 = t)))
                    else some (AV.bool false)
                else none
            else none
          else none := by kernel_rfl
end
noncomputable def g_SeLS (T0 : Type) (R0 : List AV → Option T0) (T1 : Type) (R1 : List AV → Option T1) (f1a : T1 → Str) (f1b : T1 → Int) (T2 : Type) (R2 : List AV → Option T2) (f2a : T2 → List UInt8) (T3 : Type) (R3 : List AV → Option T3) (f3a : T3 → List UInt8) (T4 : Type) (R4 : List AV → Option T4) (f4a : T4 → Int) (T5 : Type) (R5 : List AV → Option T5) (f5a : T5 → List UInt8) : Cg := ⟨⟨gam [(n_opalinelaw09_awake, ⟨R0, fun t => AV.bool (true)⟩), (n_seal_Seal, ⟨R1, fun t => AV.tup [CV.s (SV.pl (Pl.str (f1a t))), CV.s (SV.pl (Pl.int IntKind.i64 (f1b t)))]⟩), (n_seal_Row, ⟨R2, fun t => AV.str (f2a t)⟩), (n_opalineref09_Row, ⟨R3, fun t => AV.str (f3a t)⟩), (n_seal_Size, ⟨R4, fun t => AV.int IntKind.i64 (f4a t)⟩), (n_opalineref09_Seal, ⟨R5, fun t => AV.str (f5a t)⟩)], [], noE⟩, []⟩
section
variable (T0 : Type) (R0 : List AV → Option T0) (T1 : Type) (R1 : List AV → Option T1) (f1a : T1 → Str) (f1b : T1 → Int) (T2 : Type) (R2 : List AV → Option T2) (f2a : T2 → List UInt8) (T3 : Type) (R3 : List AV → Option T3) (f3a : T3 → List UInt8) (T4 : Type) (R4 : List AV → Option T4) (f4a : T4 → Int) (T5 : Type) (R5 : List AV → Option T5) (f5a : T5 → List UInt8)
theorem SeLS_ev (fu : Nat) (k nonce note t : Str) (n : Int) : afunc prog f_opalinelaw09_SealSeals (g_SeLS T0 R0 T1 R1 f1a f1b T2 R2 f2a T3 R3 f3a T4 R4 f4a T5 R5 f5a) fu [AV.str k, AV.str nonce, AV.str note, AV.str t, AV.int IntKind.i64 n] =
  (R0 []).bind fun (t_1 : T0) =>
    bif
        decide
          ((500 : Int) <
            if
                n >
                  if
                      (↑(List.length t) : Int) >
                        if (↑(List.length note) : Int) > if (↑(List.length nonce) : Int) > (↑(List.length k) : Int) then (↑(List.length nonce) : Int) else (↑(List.length k) : Int) then
                          (↑(List.length note) : Int)
                        else if (↑(List.length nonce) : Int) > (↑(List.length k) : Int) then (↑(List.length nonce) : Int) else (↑(List.length k) : Int) then
                    (↑(List.length t) : Int)
                  else
                    if (↑(List.length note) : Int) > if (↑(List.length nonce) : Int) > (↑(List.length k) : Int) then (↑(List.length nonce) : Int) else (↑(List.length k) : Int) then
                      (↑(List.length note) : Int)
                    else if (↑(List.length nonce) : Int) > (↑(List.length k) : Int) then (↑(List.length nonce) : Int) else (↑(List.length k) : Int) then
              n
            else
              if
                  (↑(List.length t) : Int) >
                    if (↑(List.length note) : Int) > if (↑(List.length nonce) : Int) > (↑(List.length k) : Int) then (↑(List.length nonce) : Int) else (↑(List.length k) : Int) then
                      (↑(List.length note) : Int)
                    else if (↑(List.length nonce) : Int) > (↑(List.length k) : Int) then (↑(List.length nonce) : Int) else (↑(List.length k) : Int) then
                (↑(List.length t) : Int)
              else
                if (↑(List.length note) : Int) > if (↑(List.length nonce) : Int) > (↑(List.length k) : Int) then (↑(List.length nonce) : Int) else (↑(List.length k) : Int) then
                  (↑(List.length note) : Int)
                else if (↑(List.length nonce) : Int) > (↑(List.length k) : Int) then (↑(List.length nonce) : Int) else (↑(List.length k) : Int)) then
      some (AV.bool true)
    else
      (R1 [AV.str k, AV.str nonce, AV.str note, AV.str t]).bind fun (t_2 : T1) =>
        (R2 [AV.str k, AV.str nonce, AV.int IntKind.i64 n]).bind fun (t_3 : T2) =>
          (R3 [AV.str k, AV.str nonce, AV.int IntKind.i64 n]).bind fun (t_4 : T3) =>
            bif !decide (f2a t_3 = f3a t_4) then some (AV.bool false)
            else
              (R4 [AV.int IntKind.i64 (↑(List.length t) : Int)]).bind fun (t_5 : T4) =>
                bif !decide (f4a t_5 = IntKind.i64.wrap ((↑(List.length t) : Int) + (96 : Int))) then some (AV.bool false)
                else
                  bif !decide ((↑(List.length nonce) : Int) = (32 : Int)) then some (AV.bool (decide (f1b t_2 = (4 : Int)) && decide (f1a t_2 = [])))
                  else bif decide (f1b t_2 = (0 : Int)) then (R5 [AV.str k, AV.str nonce, AV.str note, AV.str t]).bind fun (t : T5) => some (AV.bool (decide (f1a t_2 = f5a t))) else some (AV.bool false) := by kernel_rfl
end
noncomputable def g_SeLR (T0 : Type) (R0 : List AV → Option T0) (T1 : Type) (R1 : List AV → Option T1) (f1a : T1 → Str) (f1b : T1 → Int) (T2 : Type) (R2 : List AV → Option T2) (f2a : T2 → List UInt8) (T3 : Type) (R3 : List AV → Option T3) (f3a : T3 → Int) : Cg := ⟨⟨gam [(n_opalinelaw09_awake, ⟨R0, fun t => AV.bool (true)⟩), (n_seal_Seal, ⟨R1, fun t => AV.tup [CV.s (SV.pl (Pl.str (f1a t))), CV.s (SV.pl (Pl.int IntKind.i64 (f1b t)))]⟩), (n_seal_Row, ⟨R2, fun t => AV.str (f2a t)⟩), (n_seal_Size, ⟨R3, fun t => AV.int IntKind.i64 (f3a t)⟩)], [], noE⟩, [(8, [0, 2, 3, 5, 9, 28, 29], [0, 2, 3, 9]), (17, [2, 3, 11, 13, 81, 82], [2, 3, 8, 11, 13])]⟩
section
variable (T0 : Type) (R0 : List AV → Option T0) (T1 : Type) (R1 : List AV → Option T1) (f1a : T1 → Str) (f1b : T1 → Int) (T2 : Type) (R2 : List AV → Option T2) (f2a : T2 → List UInt8) (T3 : Type) (R3 : List AV → Option T3) (f3a : T3 → Int)
noncomputable def SeLR_s1 (s0 s2 s3 : Str) (n9 : Nat) (v28 v29 : Int) (x_0 : List Int) (m_1 : Nat) (x_1 : List Int) : St :=
  { tm := [((0 : Nat), AV.str s0), ((2 : Nat), AV.str s2), ((3 : Nat), AV.str s3), ((5 : Nat), AV.s (SV.ptr (0 : Nat) (0 : Nat) (32 : Nat))), ((9 : Nat), AV.s (SV.own (1 : Nat) n9 (1 : Nat))), ((28 : Nat), AV.int IntKind.i64 v28), ((29 : Nat), AV.int IntKind.i64 v29)], hp := [((0 : Nat), { ty := (36 : Nat), n := (32 : Nat), row := Row.t (TRow.ints IntKind.u8 x_0) }), ((1 : Nat), { ty := (5 : Nat), n := m_1, row := Row.t (TRow.ints IntKind.u8 x_1) })], nx := (2 : Nat), sz := (118 : Nat) }
noncomputable def SeLR_b1 : Code := bodyL (codeAt [1, 1, 1, 1, 0, 1, 2] (codeF f_opalinelaw09_SealRows))
noncomputable def SeLR_k1 (fu : Nat) := kAt prog (g_SeLR T0 R0 T1 R1 f1a f1b T2 R2 f2a T3 R3 f3a) fu [1, 1, 1, 1, 0, 1, 2] (codeF f_opalinelaw09_SealRows) (kFin prog f_opalinelaw09_SealRows)
noncomputable abbrev SeLR_L1 (fu : Nat) (s0 s2 s3 : Str) (n9 : Nat) (v28 v29 : Int) (x_0 : List Int) (m_1 : Nat) (x_1 : List Int) := lpA prog (g_SeLR T0 R0 T1 R1 f1a f1b T2 R2 f2a T3 R3 f3a) fu SeLR_b1 (SeLR_k1 T0 R0 T1 R1 f1a f1b T2 R2 f2a T3 R3 f3a fu ) fu (some (SeLR_s1 s0 s2 s3 n9 v28 v29 x_0 m_1 x_1))
theorem SeLR_ev (fu : Nat) (k : Str) (x : List Int) (a b : Str) : afunc prog f_opalinelaw09_SealRows (g_SeLR T0 R0 T1 R1 f1a f1b T2 R2 f2a T3 R3 f3a) fu [AV.str k, AV.agg (TRow.ints IntKind.u8 x) (32 : Nat), AV.str a, AV.str b] =
  (R0 []).bind fun (t : T0) =>
    bif
        decide
          ((400 : Int) <
            if (↑(List.length b) : Int) > if (↑(List.length a) : Int) > (↑(List.length k) : Int) then (↑(List.length a) : Int) else (↑(List.length k) : Int) then (↑(List.length b) : Int)
            else if (↑(List.length a) : Int) > (↑(List.length k) : Int) then (↑(List.length a) : Int) else (↑(List.length k) : Int)) then
      some (AV.bool true)
    else SeLR_L1 T0 R0 T1 R1 f1a f1b T2 R2 f2a T3 R3 f3a fu k a b (32 : Nat) (32 : Int) (0 : Int) x (32 : Nat) (List.replicate (32 : Nat) (0 : Int)) := by kernel_rfl
noncomputable def SeLR_o1e0 (s0 s2 s3 : Str) (n9 m_0 : Nat) (x_0 : List Int) : St :=
  { tm := [((0 : Nat), AV.str s0), ((2 : Nat), AV.str s2), ((3 : Nat), AV.str s3), ((9 : Nat), AV.s (SV.own (0 : Nat) n9 (1 : Nat)))], hp := [((0 : Nat), { ty := (5 : Nat), n := m_0, row := Row.t (TRow.ints IntKind.u8 x_0) })], nx := (1 : Nat), sz := (118 : Nat) }
theorem SeLR_r1 {β : Type} (fu : Nat) (G : Option St → Option β) (H : Ex → Option St → Option β) (s0 s2 s3 : Str) (n9 : Nat) (v28 v29 : Int) (x_0 : List Int) (m_1 : Nat) (x_1 : List Int) : lpR prog (g_SeLR T0 R0 T1 R1 f1a f1b T2 R2 f2a T3 R3 f3a) fu SeLR_b1 G H (SeLR_s1 s0 s2 s3 n9 v28 v29 x_0 m_1 x_1) =
  bif decide (v29 < v28) then
    bif decide ((0 : Int) ≤ v29 ∧ v29 < (32 : Int)) then
      bif decide ((0 : Int) ≤ v29 ∧ v29 < (↑n9 : Int)) then
        G (some (SeLR_s1 s0 s2 s3 n9 v28 (IntKind.i64.wrap (v29 + (1 : Int))) x_0 m_1 (x_1.set v29.toNat (x_0.getD ((0 : Nat) + v29.toNat) (0 : Int)))))
      else none
    else none
  else H (Ex.exit (0 : Nat)) (some (SeLR_o1e0 s0 s2 s3 n9 m_1 x_1)) := by kernel_rfl
noncomputable def SeLR_s2 (s2 s3 s11 s13 : Str) (v81 v82 : Int) : St :=
  { tm := [((2 : Nat), AV.str s2), ((3 : Nat), AV.str s3), ((11 : Nat), AV.str s11), ((13 : Nat), AV.str s13), ((81 : Nat), AV.int IntKind.i64 v81), ((82 : Nat), AV.int IntKind.i64 v82)], hp := [], nx := (0 : Nat), sz := (118 : Nat) }
noncomputable def SeLR_b2 : Code := bodyL (codeAt [1, 1, 1, 1, 1, 1, 1, 1, 0, 1, 2] (codeF f_opalinelaw09_SealRows))
noncomputable def SeLR_k2 (fu : Nat) := kAt prog (g_SeLR T0 R0 T1 R1 f1a f1b T2 R2 f2a T3 R3 f3a) fu [1, 1, 1, 1, 1, 1, 1, 1, 0, 1, 2] (codeF f_opalinelaw09_SealRows) (kFin prog f_opalinelaw09_SealRows)
noncomputable abbrev SeLR_L2 (fu : Nat) (s2 s3 s11 s13 : Str) (v81 v82 : Int) := lpA prog (g_SeLR T0 R0 T1 R1 f1a f1b T2 R2 f2a T3 R3 f3a) fu SeLR_b2 (SeLR_k2 T0 R0 T1 R1 f1a f1b T2 R2 f2a T3 R3 f3a fu ) fu (some (SeLR_s2 s2 s3 s11 s13 v81 v82))
theorem SeLR_c1e0 (fu : Nat) (s0 s2 s3 : Str) (n9 m_0 : Nat) (x_0 : List Int) : SeLR_k1 T0 R0 T1 R1 f1a f1b T2 R2 f2a T3 R3 f3a fu  (Ex.exit 0) (SeLR_o1e0 s0 s2 s3 n9 m_0 x_0) =
  (R1 [AV.str s0, AV.str (List.map b8 x_0), AV.str [], AV.str s2]).bind fun (t : T1) =>
    (R1 [AV.str s0, AV.str (List.map b8 x_0), AV.str [], AV.str s3]).bind fun (t_1 : T1) =>
      bif !decide (f1b t = (0 : Int)) then some (AV.bool false)
      else
        bif !decide (f1b t_1 = (0 : Int)) then some (AV.bool false)
        else
          (R2 [AV.str s0, AV.str (List.map b8 x_0), AV.int IntKind.i64 (500 : Int)]).bind fun (t_2 : T2) =>
            bif decide ((0 : Int) ≤ (0 : Int) ∧ (0 : Int) ≤ (↑(List.length s2) : Int) ∧ (↑(List.length s2) : Int) ≤ (↑(f2a t_2).length : Int)) then
              (R2 [AV.str s0, AV.str (List.map b8 x_0), AV.int IntKind.i64 (↑(List.length s2) : Int)]).bind fun (t_3 : T2) =>
                bif !decide (sl (f2a t_2) (0 : Int) (↑(List.length s2) : Int) = f2a t_3) then some (AV.bool false)
                else
                  SeLR_L2 T0 R0 T1 R1 f1a f1b T2 R2 f2a T3 R3 f3a fu s2 s3 (f1a t) (f1a t_1)
                    (if (↑(List.length s3) : Int) < (↑(List.length s2) : Int) then (↑(List.length s3) : Int) else (↑(List.length s2) : Int)) (0 : Int)
            else none := by kernel_rfl
noncomputable def SeLR_o2r (s2 s3 : Str) (b8 : Bool) (s11 s13 : Str) : St :=
  { tm := [((2 : Nat), AV.str s2), ((3 : Nat), AV.str s3), ((8 : Nat), AV.bool b8), ((11 : Nat), AV.str s11), ((13 : Nat), AV.str s13)], hp := [], nx := (0 : Nat), sz := (118 : Nat) }
noncomputable def SeLR_o2e2 (s2 s3 s11 s13 : Str) : St :=
  { tm := [((2 : Nat), AV.str s2), ((3 : Nat), AV.str s3), ((8 : Nat), AV.s SV.junk), ((11 : Nat), AV.str s11), ((13 : Nat), AV.str s13)], hp := [], nx := (0 : Nat), sz := (118 : Nat) }
theorem SeLR_r2 {β : Type} (fu : Nat) (G : Option St → Option β) (H : Ex → Option St → Option β) (s2 s3 s11 s13 : Str) (v81 v82 : Int) : lpR prog (g_SeLR T0 R0 T1 R1 f1a f1b T2 R2 f2a T3 R3 f3a) fu SeLR_b2 G H (SeLR_s2 s2 s3 s11 s13 v81 v82) =
  bif decide (v82 < v81) then
    bif decide ((0 : Int) ≤ IntKind.i64.wrap ((32 : Int) + v82) ∧ IntKind.i64.wrap ((32 : Int) + v82) < (↑(List.length s11) : Int)) then
      bif decide ((0 : Int) ≤ IntKind.i64.wrap ((32 : Int) + v82) ∧ IntKind.i64.wrap ((32 : Int) + v82) < (↑(List.length s13) : Int)) then
        bif decide ((0 : Int) ≤ v82 ∧ v82 < (↑(List.length s2) : Int)) then
          bif decide ((0 : Int) ≤ v82 ∧ v82 < (↑(List.length s3) : Int)) then
            bif
                !decide
                      ((↑(List.getD s11 (IntKind.i64.wrap ((32 : Int) + v82)).toNat (0 : UInt8)).toNat : Int) = (↑(List.getD s13 (IntKind.i64.wrap ((32 : Int) + v82)).toNat (0 : UInt8)).toNat : Int)) ==
                    decide ((↑(List.getD s2 v82.toNat (0 : UInt8)).toNat : Int) = (↑(List.getD s3 v82.toNat (0 : UInt8)).toNat : Int)) then
              H Ex.ret (some (SeLR_o2r s2 s3 false s11 s13))
            else G (some (SeLR_s2 s2 s3 s11 s13 v81 (IntKind.i64.wrap (v82 + (1 : Int)))))
          else none
        else none
      else none
    else none
  else H (Ex.exit (2 : Nat)) (some (SeLR_o2e2 s2 s3 s11 s13)) := by kernel_rfl
theorem SeLR_c2r (fu : Nat) (s2 s3 : Str) (b8 : Bool) (s11 s13 : Str) : SeLR_k2 T0 R0 T1 R1 f1a f1b T2 R2 f2a T3 R3 f3a fu  Ex.ret (SeLR_o2r s2 s3 b8 s11 s13) =
  some (AV.bool b8) := by kernel_rfl
theorem SeLR_c2e2 (fu : Nat) (s2 s3 s11 s13 : Str) : SeLR_k2 T0 R0 T1 R1 f1a f1b T2 R2 f2a T3 R3 f3a fu  (Ex.exit 2) (SeLR_o2e2 s2 s3 s11 s13) =
  (R3 [AV.int IntKind.i64 (↑(List.length s2) : Int)]).bind fun (t : T3) => some (AV.bool (decide ((↑(List.length s11) : Int) = f3a t) && decide (s11 = s13) == decide (s2 = s3))) := by kernel_rfl
end
end Go.Eng
/- seal and its document: their contracts. -/
namespace Go.Eng
open Go Go.Proofs
set_option linter.unusedVariables false
set_option linter.unusedSimpArgs false
noncomputable abbrev gI_SeSm : Cg := g_SeSm 
theorem gok_SeSm : CfOk prog gI_SeSm.c := ⟨gam_nil, fun _ _ h => by cases h⟩
theorem or8 (x y : Nat) (hx : x < 256) (hy : y < 256) : bOr .u8 (x : Int) (y : Int) = ((x ||| y : Nat) : Int) := by
  unfold bOr
  have e : (BitVec.ofInt (IntKind.bits .u8) (x : Int) ||| BitVec.ofInt (IntKind.bits .u8) (y : Int)).toNat = x ||| y := by
    show (BitVec.ofInt 8 (x : Int) ||| BitVec.ofInt 8 (y : Int)).toNat = x ||| y
    rw [BitVec.toNat_or, BitVec.ofInt_natCast, BitVec.ofInt_natCast, BitVec.toNat_ofNat, BitVec.toNat_ofNat, Nat.mod_eq_of_lt (by omega), Nat.mod_eq_of_lt (by omega)]
  rw [e, wu8n, Nat.mod_eq_of_lt]
  exact Nat.or_lt_two_pow (n := 8) hx hy
theorem drop_getD' {α : Type} (l : List α) (i : Nat) (h : i < l.length) (d : α) : l.drop i = l.getD i d :: l.drop (i + 1) := by
  rw [List.drop_eq_getElem_cons h, List.getD_eq_getElem?_getD, List.getElem?_eq_getElem h]; rfl
theorem xor_zero_iff (x y : UInt8) : x.toNat ^^^ y.toNat = 0 ↔ x = y := by
  constructor
  · intro h
    have := congrArg (fun z => z ^^^ y.toNat) h
    simp only [Nat.xor_assoc, Nat.xor_self, Nat.xor_zero, Nat.zero_xor] at this
    exact UInt8.toNat_inj.1 this
  · rintro rfl; exact Nat.xor_self _
theorem sm_loop (a b : Str) (hl : a.length = b.length) (ha : a.length ≤ 1099511620000) (fu : Nat) : ∀ (d n i v : Nat), i + d = a.length → d < n → v < 256 →
    lpA prog gI_SeSm fu SeSm_b1 (SeSm_k1 fu) n (some (SeSm_s1 a b (v : Int) (a.length : Int) (i : Int))) = some (.bool (decide (v = 0) && decide (a.drop i = b.drop i))) := by
  intro d
  induction d with
  | zero =>
    intro n i v hi hn hv
    obtain ⟨n, rfl⟩ := Nat.exists_eq_succ_of_ne_zero (by omega : n ≠ 0)
    rw [lpA_succ, SeSm_r1, decide_eq_false (by omega), cond_false, kOut_some, SeSm_c1e0, List.drop_eq_nil_of_le (by omega), List.drop_eq_nil_of_le (by omega), decide_eq_true (rfl : ([] : Str) = []), Bool.and_true, show decide ((v : Int) = 0) = decide (v = 0) from decide_eq_decide.2 (by omega)]
  | succ d ih =>
    intro n i v hi hn hv
    obtain ⟨n, rfl⟩ := Nat.exists_eq_succ_of_ne_zero (by omega : n ≠ 0)
    have hx : (a.getD i 0).toNat ^^^ (b.getD i 0).toNat < 256 := Nat.xor_lt_two_pow (n := 8) (a.getD i 0).toNat_lt (b.getD i 0).toNat_lt
    have ho : v ||| ((a.getD i 0).toNat ^^^ (b.getD i 0).toNat) < 256 := Nat.or_lt_two_pow (n := 8) hv hx
    have h := ih n (i + 1) (v ||| ((a.getD i 0).toNat ^^^ (b.getD i 0).toNat)) (by omega) (by omega) ho
    rw [lpA_succ, SeSm_r1, decide_eq_true (by omega), cond_true, decide_eq_true (by omega), cond_true, decide_eq_true (by omega), cond_true, Int.toNat_natCast, xor8 _ _ (a.getD i 0).toNat_lt (b.getD i 0).toNat_lt, or8 _ _ hv hx, wi64 (by omega) (by omega)]
    refine Eq.trans h ?_
    rw [drop_getD' a i (by omega) 0, drop_getD' b i (by omega) 0]
    congr 2
    rw [← Bool.decide_and, ← Bool.decide_and]
    refine decide_eq_decide.2 ?_
    rw [List.cons.injEq, Nat.or_eq_zero_iff, xor_zero_iff, and_assoc]
theorem ok_Same : CallOk prog n_hmac_Same sSame := by
  refine afunc_okE (g := gI_SeSm) (fu := fun args => match args with | .c (.s (.pl (.str s))) :: _ => s.length + 1 | _ => 0) mixed gok_SeSm h_hmac_Same (by kernel_rfl) ?_
  intro args t ht
  unfold sSame at ht
  simp only at ht
  split at ht
  · rename_i a b
    obtain ⟨h1, h2⟩ := ctrueS ht
    subst h2
    rw [Bool.and_eq_true] at h1
    have ha := okLen_ok h1.1
    refine (SeSm_ev ..).trans ?_
    by_cases c : a.length = b.length
    · rw [decide_eq_true (by omega), Bool.not_true, cond_false]
      exact sm_loop a b c ha (a.length + 1) a.length (a.length + 1) 0 0 (by omega) (Nat.lt_succ_self _) (by decide)
    · rw [decide_eq_false (by omega), Bool.not_false, cond_true, decide_eq_false (fun e => c (congrArg List.length e))]; rfl
  · cases ht
theorem run_Same {a b : Str} (ha : okLen a = true) (hb : okLen b = true) : rSame [.str a, .str b] = some (decide (a = b)) := by
  have e : (okLen a && okLen b) = true := by rw [ha, hb]; rfl
  simp only [rSame, sSame, e, cond_true]
noncomputable abbrev gI_SeOf : Cg := g_SeOf (List UInt8) rSecret (fun t => t) (List UInt8) rWith (fun t => t)
theorem gok_SeOf : CfOk prog gI_SeOf.c := ⟨gam_cons ok_Secret <| gam_cons ok_With <| gam_nil, fun _ _ h => by cases h⟩
theorem hide_eq (a : Str) : (labelA a encW [] 64).1 = hideK a := by
  rw [labelA, if_neg (by decide), if_neg (by decide), if_neg (by decide)]; rfl
theorem hold_eq (a : Str) : (labelA a autW [] 64).1 = holdK a := by
  rw [labelA, if_neg (by decide), if_neg (by decide), if_neg (by decide)]; rfl
theorem hideK_len (a : Str) : (hideK a).length = 64 := expS_len _ _ _
theorem holdK_len (a : Str) : (holdK a).length = 64 := expS_len _ _ _
theorem ok_KeysOf : CallOk prog n_seal_of sKeysOf := by
  refine afunc_okE (g := gI_SeOf) (fu := fun _ => 0) mixed gok_SeOf h_seal_of (by kernel_rfl) ?_
  intro args t ht
  unfold sKeysOf at ht
  simp only at ht
  split at ht
  · rename_i a
    obtain ⟨h1, h2⟩ := ctrueS ht
    subst h2
    refine (SeOf_ev ..).trans ?_
    have r1 := run_Secret (l := encW) (c := []) h1 rfl rfl
    have r2 := run_Secret (l := autW) (c := []) h1 rfl rfl
    unfold encW at r1
    unfold autW at r2
    rw [r1, Option.bind_some, r2]
    show (rWith [AV.str (labelA a encW [] 64).1]).bind _ = _
    rw [hide_eq, run_With (okLen_of (by rw [hideK_len]; decide)), Option.bind_some, Option.bind_some]
    show (rWith [AV.str (labelA a autW [] 64).1]).bind _ = _
    rw [hold_eq, run_With (okLen_of (by rw [holdK_len]; decide)), Option.bind_some]; rfl
  · cases ht
theorem run_KeysOf {a : Str} (h : okLen a = true) : rKeysOf [.str a] = some (wholeS (hideK a), wholeS (holdK a)) := by
  simp only [rKeysOf, sKeysOf, h, cond_true]
noncomputable abbrev gI_SeKR : Cg := g_SeKR (List UInt8) rKeyed (fun t => t)
theorem gok_SeKR : CfOk prog gI_SeKR.c := ⟨gam_cons ok_Keyed <| gam_nil, fun _ _ h => by cases h⟩
theorem rowB_len (w nonce : Str) (i : Nat) : (rowB w nonce i).length = 64 := hmacK_len _ _
theorem join2 (a b : Str) : Lib.join ([a] ++ [b]) [] = a ++ b := by rw [join_flat]; simp
theorem kr_loop (a b nonce : Str) (ha : a.length = 128) (hn0 : nonce.length ≤ 1000000000000) (k : Int) (hk : k < 4294967296) (fu : Nat) : ∀ (e n j : Nat), j + e = up64 k.toNat → e < n →
    lpA prog gI_SeKR fu SeKR_b1 (SeKR_k1 _ rKeyed (fun t => t) fu) n (some (SeKR_s1 nonce k (blocksS (rowB a nonce) j) (j : Int) a b)) = some (.str (rowW a nonce k.toNat)) := by
  intro e
  induction e with
  | zero =>
    intro n j hj hn
    obtain ⟨n, rfl⟩ := Nat.exists_eq_succ_of_ne_zero (by omega : n ≠ 0)
    have hb := blocksS_len (rowB a nonce) (rowB_len a nonce) j
    unfold up64 at hj
    have em : (if (0 : Int) > k then (0 : Int) else k) = ((k.toNat : Nat) : Int) := by split <;> omega
    have e2 : sl (blocksS (rowB a nonce) j) 0 ((k.toNat : Nat) : Int) = (blocksS (rowB a nonce) j).take k.toNat := by rw [sl, show Int.toNat 0 = 0 from rfl, List.drop_zero, show (((k.toNat : Nat) : Int) - 0).toNat = k.toNat by omega]
    rw [lpA_succ, SeKR_r1, decide_eq_false (by omega), cond_false, kOut_some, SeKR_c1e0, em, decide_eq_true (by omega), cond_true, e2, rowW, show up64 k.toNat = j from hj.symm]
  | succ e ih =>
    intro n j hj hn
    obtain ⟨n, rfl⟩ := Nat.exists_eq_succ_of_ne_zero (by omega : n ≠ 0)
    have hb := blocksS_len (rowB a nonce) (rowB_len a nonce) j
    have h := ih n (j + 1) (by omega) (by omega)
    have hl := rowB_len a nonce j
    unfold up64 at hj
    have j2 := join2 nonce (four j)
    rw [lpA_succ, SeKR_r1, decide_eq_true (by omega), cond_true, st_four j (by omega), run_Keyed (n := 2) ha (okJ_of rfl (by simp) (by rw [j2, List.length_append, four_len]; omega)), Option.bind_some, j2]
    rw [blocksS_succ] at h
    show (bif decide ((blocksS (rowB a nonce) j).length + (rowB a nonce j).length ≤ _) then _ else _) = _
    rw [decide_eq_true (by omega), cond_true, wi64 (by omega) (by omega)]
    exact h
theorem ok_KRow : CallOk prog n_seal_keys_row sKRow := by
  refine afunc_okE (g := gI_SeKR) (fu := fun _ => 70000000) mixed gok_SeKR h_seal_keys_row (by kernel_rfl) ?_
  intro args t ht
  unfold sKRow at ht
  simp only at ht
  split at ht
  · rename_i f a g b nonce n
    obtain ⟨h1, h2⟩ := ctrueS ht
    subst h2
    simp only [Bool.and_eq_true, decide_eq_true_eq] at h1
    obtain ⟨⟨⟨⟨hf, hg⟩, ha⟩, hn⟩, hk⟩ := h1
    have hf := Nat.eq_of_beq_eq_true hf
    have hg := Nat.eq_of_beq_eq_true hg
    have ha := Nat.eq_of_beq_eq_true ha
    subst hf hg
    refine (SeKR_ev ..).trans ?_
    have hn := Nat.le_of_ble_eq_true hn
    have hu : up64 n.toNat < 70000000 := by unfold up64; omega
    generalize 70000000 = fu at hu ⊢
    exact kr_loop a b nonce ha hn n hk fu (up64 n.toNat) fu 0 (by omega) hu
  · cases ht
theorem okL3_ok {s : Str} (h : okL3 s = true) : s.length ≤ 1000000000000 := Nat.le_of_ble_eq_true h
theorem okL3_of {s : Str} (h : s.length ≤ 1000000000000) : okL3 s = true := Nat.ble_eq_true_of_le h
theorem run_KRow {a b nonce : Str} {n : Int} (ha : a.length = 128) (hn : okL3 nonce = true) (h : n < 4294967296) : rKRow [.c (.mix [.clo n_hmac_keyed_sum [.str a] [], .clo n_hmac_keyed_sum [.str b] []]), .str nonce, .int .i64 n] = some (rowW a nonce n.toNat) := by
  have e : (Nat.beq n_hmac_keyed_sum n_hmac_keyed_sum && Nat.beq n_hmac_keyed_sum n_hmac_keyed_sum && Nat.beq a.length 128 && okL3 nonce && decide (n < 4294967296)) = true := by rw [ha, hn, decide_eq_true h]; rfl
  simp only [rKRow, sKRow, e, cond_true]
noncomputable abbrev gI_SeKS : Cg := g_SeKS (List UInt8) rCounted (fun t => t) (List UInt8) rKeyed (fun t => t)
theorem gok_SeKS : CfOk prog gI_SeKS.c := ⟨gam_cons ok_Counted <| gam_cons ok_Keyed <| gam_nil, fun _ _ h => by cases h⟩
theorem ok_KSum : CallOk prog n_seal_keys_sum sKSum := by
  refine afunc_okE (g := gI_SeKS) (fu := fun _ => 0) mixed gok_SeKS h_seal_keys_sum (by kernel_rfl) ?_
  intro args t ht
  unfold sKSum at ht
  simp only at ht
  split at ht
  · rename_i f a g b note nonce h
    obtain ⟨h1, h2⟩ := ctrueS ht
    subst h2
    simp only [Bool.and_eq_true, decide_eq_true_eq] at h1
    obtain ⟨⟨⟨hf, hg⟩, hb⟩, hk⟩ := h1
    have hf := Nat.eq_of_beq_eq_true hf
    have hg := Nat.eq_of_beq_eq_true hg
    have hb := Nat.eq_of_beq_eq_true hb
    subst hf hg
    refine (SeKS_ev ..).trans ?_
    have l := cnt2_len note nonce
    have j2 := join2 (cntL [note, nonce]) h
    show (rCounted [AV.s (.dat (.strs [note, nonce]) 2 1)]).bind _ = _
    rw [run_Counted rfl (by simp) (by omega), Option.bind_some, run_Keyed (n := 2) hb (okJ_of rfl (by simp) (by rw [j2, List.length_append]; omega)), Option.bind_some, j2]; rfl
  · cases ht
theorem run_KSum {a b note nonce h : Str} (hb : b.length = 128) (hl : note.length + nonce.length + h.length ≤ 1000000000000) : rKSum [.c (.mix [.clo n_hmac_keyed_sum [.str a] [], .clo n_hmac_keyed_sum [.str b] []]), .str note, .str nonce, .str h] = some (hmacK b (cntL [note, nonce] ++ h)) := by
  have e : (Nat.beq n_hmac_keyed_sum n_hmac_keyed_sum && Nat.beq n_hmac_keyed_sum n_hmac_keyed_sum && Nat.beq b.length 128 && decide (note.length + nonce.length + h.length ≤ 1000000000000)) = true := by rw [hb, decide_eq_true hl]; rfl
  simp only [rKSum, sKSum, e, cond_true]
noncomputable abbrev gI_SeRo : Cg := g_SeRo (Str × Str) rKeysOf (fun t => t.1) (fun t => t.2) (List UInt8) rKRow (fun t => t)
theorem gok_SeRo : CfOk prog gI_SeRo.c := ⟨gam_cons ok_KeysOf <| gam_cons ok_KRow <| gam_nil, fun _ _ h => by cases h⟩
theorem ok_Row : CallOk prog n_seal_Row sRow := by
  refine afunc_okE (g := gI_SeRo) (fu := fun _ => 0) mixed gok_SeRo h_seal_Row (by kernel_rfl) ?_
  intro args t ht
  unfold sRow at ht
  simp only at ht
  split at ht
  · rename_i k nonce n
    obtain ⟨h1, h2⟩ := ctrueS ht
    subst h2
    simp only [Bool.and_eq_true, decide_eq_true_eq] at h1
    refine (SeRo_ev ..).trans ?_
    rw [run_KeysOf h1.1.1, Option.bind_some, run_KRow (wholeS_len _) h1.1.2 h1.2, Option.bind_some]; rfl
  · cases ht
theorem run_Row {k nonce : Str} {n : Int} (hk : okLen k = true) (hn : okL3 nonce = true) (h : n < 4294967296) : rRow [.str k, .str nonce, .int .i64 n] = some (rowS k nonce n.toNat) := by
  have e : (okLen k && okL3 nonce && decide (n < 4294967296)) = true := by rw [hk, hn, decide_eq_true h]; rfl
  simp only [rRow, sRow, e, cond_true]
noncomputable abbrev gI_SeSz : Cg := g_SeSz 
theorem gok_SeSz : CfOk prog gI_SeSz.c := ⟨gam_nil, fun _ _ h => by cases h⟩
theorem ok_Size : CallOk prog n_seal_Size sSize := by
  refine afunc_okE (g := gI_SeSz) (fu := fun _ => 0) mixed gok_SeSz h_seal_Size (by kernel_rfl) ?_
  intro args t ht
  unfold sSize at ht
  simp only at ht
  split at ht
  · rename_i n
    obtain ⟨h1, h2⟩ := ctrueS ht
    subst h2
    have h1 := of_decide_eq_true h1
    refine (SeSz_ev ..).trans ?_
    rw [wi64 (by omega) (by omega)]; rfl
  · cases ht
theorem run_Size {n : Nat} (h : n < 4611686018427387904) : rSize [.int .i64 (n : Int)] = some ((n : Int) + 96) := by
  have e : decide (-4611686018427387904 ≤ (n : Int) ∧ (n : Int) < 4611686018427387904) = true := decide_eq_true (by omega)
  simp only [rSize, sSize, e, cond_true]
/-! ## Seal, Open -/
theorem rowW_len (w nonce : Str) (n : Nat) : (rowW w nonce n).length = n := by
  rw [rowW, List.length_take, blocksS_len _ (rowB_len w nonce)]
  unfold up64
  omega
theorem rowW_take (w nonce : Str) (n m : Nat) (h : n ≤ m) : (rowW w nonce m).take n = rowW w nonce n := by
  rw [rowW, List.take_take, Nat.min_eq_left h, rowW, ← blocksS_take _ (rowB_len w nonce) (up64 n) (up64 m) (by unfold up64; omega), List.take_take, Nat.min_eq_left (by unfold up64; omega)]
theorem rowS_len (k nonce : Str) (n : Nat) : (rowS k nonce n).length = n := rowW_len _ _ _
theorem sumS_len (k note nonce h : Str) : (sumS k note nonce h).length = 64 := hmacK_len _ _
theorem sealS_len (k nonce note t : Str) : (sealS k nonce note t).length = nonce.length + t.length + 64 := by
  rw [sealS, List.length_append, List.length_append, sumS_len, xorL_len, rowS_len, Nat.min_self]; omega
noncomputable abbrev gI_SeSe : Cg := g_SeSe (Str × Str) rKeysOf (fun t => t.1) (fun t => t.2) (List UInt8) rKRow (fun t => t) (List UInt8) rXor (fun t => t) (List UInt8) rKSum (fun t => t)
theorem gok_SeSe : CfOk prog gI_SeSe.c := ⟨gam_cons ok_KeysOf <| gam_cons ok_KRow <| gam_cons ok_Xor <| gam_cons ok_KSum <| gam_nil, fun _ _ h => by cases h⟩
theorem ok_Seal : CallOk prog n_seal_Seal sSeal := by
  refine afunc_okE (g := gI_SeSe) (fu := fun _ => 0) mixed gok_SeSe h_seal_Seal (by kernel_rfl) ?_
  intro args r ht
  unfold sSeal at ht
  simp only at ht
  split at ht
  · rename_i k nonce note t
    obtain ⟨h1, h2⟩ := ctrueS ht
    subst h2
    refine (SeSe_ev ..).trans ?_
    unfold sealA
    by_cases c1 : nonce.length = 32
    · rw [decide_eq_true (by omega), Bool.not_true, cond_false, if_neg (fun h => h c1)]
      by_cases c2 : 65536 ≤ note.length
      · rw [decide_eq_true (by omega), cond_true, if_pos (Or.inl c2)]; rfl
      rw [decide_eq_false (by omega), cond_false]
      by_cases c3 : 65536 < t.length
      · rw [decide_eq_true (by omega), cond_true, if_pos (Or.inr c3)]; rfl
      have xl := xorL_len t (rowS k nonce t.length)
      rw [rowS_len, Nat.min_self] at xl
      rw [decide_eq_false (by omega), cond_false, if_neg (by omega), run_KeysOf h1, Option.bind_some, run_KRow (wholeS_len _) (okL3_of (by omega)) (by omega), Option.bind_some, Int.toNat_natCast]
      show (rXor [AV.str t, AV.str (rowS k nonce t.length)]).bind _ = _
      rw [run_Xor (okLen_of (by omega)) (okLen_of (by rw [rowS_len]; omega)), Option.bind_some, decide_eq_true (by rw [xl]; omega), cond_true, run_KSum (wholeS_len _) (by omega), Option.bind_some]
      show (bif decide (List.length (nonce ++ xorL t (rowS k nonce t.length)) + (sumS k note nonce (xorL t (rowS k nonce t.length))).length ≤ _) then _ else _) = _
      rw [sumS_len, decide_eq_true (by rw [List.length_append]; omega), cond_true, List.append_assoc]; rfl
    · rw [decide_eq_false (by omega), Bool.not_false, cond_true, if_pos c1]; rfl
  · cases ht
theorem run_Seal {k nonce note t : Str} (h : okLen k = true) : rSeal [.str k, .str nonce, .str note, .str t] = some (sealA k nonce note t) := by
  simp only [rSeal, sSeal, h, cond_true]
theorem sl_nat (t : Str) (a b : Nat) : sl t (a : Int) (b : Int) = (t.drop a).take (b - a) := by
  rw [sl, Int.toNat_natCast, show ((b : Int) - (a : Int)).toNat = b - a by omega]
noncomputable abbrev gI_SeOp : Cg := g_SeOp (Str × Str) rKeysOf (fun t => t.1) (fun t => t.2) (List UInt8) rKSum (fun t => t) (Bool) rSame (fun t => t) (List UInt8) rKRow (fun t => t) (List UInt8) rXor (fun t => t)
theorem gok_SeOp : CfOk prog gI_SeOp.c := ⟨gam_cons ok_KeysOf <| gam_cons ok_KSum <| gam_cons ok_Same <| gam_cons ok_KRow <| gam_cons ok_Xor <| gam_nil, fun _ _ h => by cases h⟩
theorem ok_Open : CallOk prog n_seal_Open sOpen := by
  refine afunc_okE (g := gI_SeOp) (fu := fun _ => 0) mixed gok_SeOp h_seal_Open (by kernel_rfl) ?_
  intro args r ht
  unfold sOpen at ht
  simp only at ht
  split at ht
  · rename_i k note t
    obtain ⟨h1, h2⟩ := ctrueS ht
    subst h2
    refine (SeOp_ev ..).trans ?_
    unfold openA
    by_cases c1 : t.length < 96
    · rw [decide_eq_true (by omega), cond_true, if_pos c1]; rfl
    rw [decide_eq_false (by omega), cond_false, if_neg c1]
    by_cases c2 : 65632 < t.length
    · rw [decide_eq_true (by omega), cond_true, if_pos (Or.inl c2)]; rfl
    rw [decide_eq_false (by omega), cond_false]
    by_cases c3 : 65536 ≤ note.length
    · rw [decide_eq_true (by omega), cond_true, if_pos (Or.inr c3)]; rfl
    have w : IntKind.i64.wrap ((t.length : Int) - 64) = ((t.length - 64 : Nat) : Int) := by rw [wi64 (by omega) (by omega)]; omega
    have s1 : sl t 0 32 = t.take 32 := by rw [sl]; rfl
    have s2 : sl t 32 ((t.length - 64 : Nat) : Int) = (t.drop 32).take (t.length - 96) := by
      have := sl_nat t 32 (t.length - 64)
      rw [show ((32 : Nat) : Int) = 32 from rfl] at this
      rw [this, show t.length - 64 - 32 = t.length - 96 by omega]
    have s3 : sl t ((t.length - 64 : Nat) : Int) (t.length : Int) = t.drop (t.length - 64) := by
      rw [sl_nat, List.take_of_length_le]
      rw [List.length_drop]; omega
    have l1 : (t.take 32).length = 32 := by rw [List.length_take]; omega
    have l2 : ((t.drop 32).take (t.length - 96)).length = t.length - 96 := by rw [List.length_take, List.length_drop]; omega
    have l3 : (t.drop (t.length - 64)).length = 64 := by rw [List.length_drop]; omega
    rw [decide_eq_false (by omega), cond_false, if_neg (by omega), run_KeysOf h1, Option.bind_some, w, decide_eq_true (by omega), cond_true, decide_eq_true (by omega), cond_true, s1, s2, s3, run_KSum (wholeS_len _) (by omega), Option.bind_some, decide_eq_true (by omega), cond_true]
    show (rSame [AV.str (sumS k note (t.take 32) ((t.drop 32).take (t.length - 96))), AV.str (t.drop (t.length - 64))]).bind _ = _
    rw [run_Same (okLen_of (by rw [sumS_len]; decide)) (okLen_of (by omega)), Option.bind_some]
    by_cases c4 : sumS k note (t.take 32) ((t.drop 32).take (t.length - 96)) = t.drop (t.length - 64)
    · rw [decide_eq_true c4, Bool.not_true, cond_false, if_pos c4, run_KRow (wholeS_len _) (okL3_of (by omega)) (by omega), Option.bind_some, l2, Int.toNat_natCast]
      show (rXor [AV.str ((t.drop 32).take (t.length - 96)), AV.str (rowS k (t.take 32) (t.length - 96))]).bind _ = _
      rw [run_Xor (okLen_of (by omega)) (okLen_of (by rw [rowS_len]; omega)), Option.bind_some]; rfl
    · rw [decide_eq_false c4, Bool.not_false, cond_true, if_neg c4]; rfl
  · cases ht
theorem run_Open {k note t : Str} (h : okLen k = true) : rOpen [.str k, .str note, .str t] = some (openA k note t) := by
  simp only [rOpen, sOpen, h, cond_true]
/-! ## the document -/
noncomputable abbrev gI_SrRo : Cg := g_SrRo (List UInt8) rRefLabel (fun t => t) (List UInt8) rTwoB (fun t => t) (List UInt8) rRefHmac (fun t => t)
theorem gok_SrRo : CfOk prog gI_SrRo.c := ⟨gam_cons ok_RefLabel <| gam_cons ok_Two <| gam_cons ok_RefHmac <| gam_nil, fun _ _ h => by cases h⟩
theorem two_four (i : Nat) : pre2 (i / 65536) ++ pre2 (i % 65536) = four i := by
  unfold pre2 four
  rw [show i / 65536 / 256 % 256 = i / 16777216 % 256 by omega, show i % 65536 / 256 % 256 = i / 256 % 256 by omega, show i % 65536 % 256 = i % 256 by omega]; rfl
theorem sr_loop (w nonce : Str) (hw : okLen w = true) (hn0 : nonce.length ≤ 1000000000000) (k : Int) (hk : k < 4294967296) (fu : Nat) : ∀ (e n j : Nat), j + e = up64 k.toNat → e < n →
    lpA prog gI_SrRo fu SrRo_b1 (SrRo_k1 _ rRefLabel (fun t => t) _ rTwoB (fun t => t) _ rRefHmac (fun t => t) fu) n (some (SrRo_s1 nonce k w (blocksS (rowB (wholeS w) nonce) j) (j : Int))) = some (.str (rowW (wholeS w) nonce k.toNat)) := by
  intro e
  induction e with
  | zero =>
    intro n j hj hn
    obtain ⟨n, rfl⟩ := Nat.exists_eq_succ_of_ne_zero (by omega : n ≠ 0)
    have hb := blocksS_len (rowB (wholeS w) nonce) (rowB_len _ nonce) j
    unfold up64 at hj
    rw [lpA_succ, SrRo_r1, decide_eq_false (by omega), cond_false, kOut_some, SrRo_c1e0]
    by_cases c : k < 0
    · rw [decide_eq_true c, cond_true, show k.toNat = 0 by omega]
      rw [show sl (blocksS (rowB (wholeS w) nonce) j) 0 0 = [] by rw [sl]; rfl, rowW, List.take_zero]
    · rw [decide_eq_false c, cond_false, decide_eq_true (by omega), cond_true]
      have e2 : sl (blocksS (rowB (wholeS w) nonce) j) 0 k = (blocksS (rowB (wholeS w) nonce) j).take k.toNat := by rw [sl]; simp
      rw [e2, rowW, show up64 k.toNat = j from hj.symm]
  | succ e ih =>
    intro n j hj hn
    obtain ⟨n, rfl⟩ := Nat.exists_eq_succ_of_ne_zero (by omega : n ≠ 0)
    have hb := blocksS_len (rowB (wholeS w) nonce) (rowB_len _ nonce) j
    have h := ih n (j + 1) (by omega) (by omega)
    have hl := rowB_len (wholeS w) nonce j
    unfold up64 at hj
    have d1 : IntKind.i64.wrap ((j : Int).tdiv 65536) = ((j / 65536 : Nat) : Int) := by
      rw [Int.tdiv_eq_ediv_of_nonneg (by omega), wi64 (by omega) (by omega)]; omega
    have d2 : (j : Int).tmod 65536 = ((j % 65536 : Nat) : Int) := by
      rw [Int.tmod_eq_emod_of_nonneg (by omega)]; omega
    rw [lpA_succ, SrRo_r1, decide_eq_true (by omega), cond_true, d1, d2, run_Two (by omega), Option.bind_some, decide_eq_true (by rw [pre2_len]; omega), cond_true, run_Two (by omega), Option.bind_some, decide_eq_true (by rw [List.length_append, pre2_len, pre2_len]; omega), cond_true, List.append_assoc, two_four,
      run_RefHmac hw (okLen_of (by rw [List.length_append, four_len]; omega)), Option.bind_some]
    rw [blocksS_succ] at h
    show (bif decide ((blocksS (rowB (wholeS w) nonce) j).length + (rowB (wholeS w) nonce j).length ≤ _) then _ else _) = _
    rw [decide_eq_true (by omega), cond_true, wi64 (by omega) (by omega)]
    exact h
theorem ok_RefRow : CallOk prog n_opalineref09_Row sRow := by
  refine afunc_okE (g := gI_SrRo) (fu := fun _ => 70000000) mixed gok_SrRo h_opalineref09_Row (by kernel_rfl) ?_
  intro args t ht
  unfold sRow at ht
  simp only at ht
  split at ht
  · rename_i k nonce n
    obtain ⟨h1, h2⟩ := ctrueS ht
    subst h2
    simp only [Bool.and_eq_true, decide_eq_true_eq] at h1
    refine (SrRo_ev ..).trans ?_
    have r := run_RefLabel (k := k) (l := encW) (c := []) (n := 64) h1.1.1 (by decide) (by decide) (by decide) (by decide)
    unfold encW at r
    rw [r, Option.bind_some]
    have hu : up64 n.toNat < 70000000 := by unfold up64; omega
    generalize 70000000 = fu at hu ⊢
    exact sr_loop (hideK k) nonce (okLen_of (by rw [hideK_len]; decide)) (okL3_ok h1.1.2) n h1.2 fu (up64 n.toNat) fu 0 (by omega) hu
  · cases ht
noncomputable abbrev gI_SrSu : Cg := g_SrSu (List UInt8) rRefLabel (fun t => t) (List UInt8) rTwoB (fun t => t) (List UInt8) rRefHmac (fun t => t)
theorem gok_SrSu : CfOk prog gI_SrSu.c := ⟨gam_cons ok_RefLabel <| gam_cons ok_Two <| gam_cons ok_RefHmac <| gam_nil, fun _ _ h => by cases h⟩
theorem ok_RefSumS : CallOk prog n_opalineref09_Sum sRefSumS := by
  refine afunc_okE (g := gI_SrSu) (fu := fun _ => 0) mixed gok_SrSu h_opalineref09_Sum (by kernel_rfl) ?_
  intro args t ht
  unfold sRefSumS at ht
  simp only at ht
  split at ht
  · rename_i k note nonce h
    obtain ⟨h1, h2⟩ := ctrueS ht
    subst h2
    simp only [Bool.and_eq_true, decide_eq_true_eq] at h1
    refine (SrSu_ev ..).trans ?_
    have r := run_RefLabel (k := k) (l := autW) (c := []) (n := 64) h1.1 (by decide) (by decide) (by decide) (by decide)
    unfold autW at r
    rw [r, Option.bind_some, run_Two (by omega), Option.bind_some, decide_eq_true (by rw [pre2_len]; omega), cond_true, run_Two (by omega), Option.bind_some]
    simp only [List.length_append, pre2_len]
    rw [decide_eq_true (by omega), cond_true, decide_eq_true (by omega), cond_true, decide_eq_true (by omega), cond_true]
    have e : pre2 note.length ++ note ++ pre2 nonce.length ++ nonce ++ h = cntL [note, nonce] ++ h := by
      simp only [cntL, List.append_assoc, List.nil_append]
    show (rRefHmac [AV.str (holdK k), AV.str (pre2 note.length ++ note ++ pre2 nonce.length ++ nonce ++ h)]).bind _ = _
    have l := cnt2_len note nonce
    rw [e, run_RefHmac (okLen_of (by rw [holdK_len]; decide)) (okLen_of (by rw [List.length_append]; omega)), Option.bind_some]; rfl
  · cases ht
theorem run_RefSumS {k note nonce h : Str} (hk : okLen k = true) (hl : note.length + nonce.length + h.length ≤ 1000000000000) : rRefSumS [.str k, .str note, .str nonce, .str h] = some (sumS k note nonce h) := by
  have e : (okLen k && decide (note.length + nonce.length + h.length ≤ 1000000000000)) = true := by rw [hk, decide_eq_true hl]; rfl
  simp only [rRefSumS, sRefSumS, e, cond_true]
noncomputable abbrev gI_SrSe : Cg := g_SrSe (List UInt8) rRow (fun t => t) (List UInt8) rRefSumS (fun t => t)
theorem gok_SrSe : CfOk prog gI_SrSe.c := ⟨gam_cons ok_RefRow <| gam_cons ok_RefSumS <| gam_nil, fun _ _ h => by cases h⟩
theorem se_loop (k nonce note t : Str) (hk : okLen k = true) (hl : note.length + nonce.length + t.length ≤ 1000000) (m fu : Nat) : ∀ (d n i : Nat), i + d = t.length → d < n →
    lpA prog gI_SrSe fu SrSe_b1 (SrSe_k1 _ rRow (fun t => t) _ rRefSumS (fun t => t) fu) n (some (SrSe_s1 k nonce note t (rowS k nonce t.length) t.length (i : Int) m ((xorI t (rowS k nonce t.length)).take i ++ List.replicate (t.length - i) 0))) = some (.str (sealS k nonce note t)) := by
  have hr := rowS_len k nonce t.length
  have hR := xorI_len t (rowS k nonce t.length)
  have xl := xorL_len t (rowS k nonce t.length)
  rw [hr, Nat.min_self] at hR xl
  intro d
  induction d with
  | zero =>
    intro n i hi hn
    obtain ⟨n, rfl⟩ := Nat.exists_eq_succ_of_ne_zero (by omega : n ≠ 0)
    have e : i = t.length := by omega
    rw [lpA_succ, SrSe_r1, decide_eq_false (by omega), cond_false, kOut_some, SrSe_c1e0, e, Nat.sub_self, List.replicate_zero, List.append_nil, List.take_of_length_le (by omega), xorI_b8, decide_eq_true (by omega), cond_true, run_RefSumS hk (by omega), Option.bind_some, sumS_len, decide_eq_true (by rw [List.length_append]; omega), cond_true, List.append_assoc]; rfl
  | succ d ih =>
    intro n i hi hn
    obtain ⟨n, rfl⟩ := Nat.exists_eq_succ_of_ne_zero (by omega : n ≠ 0)
    have h := ih n (i + 1) (by omega) (by omega)
    have g := xorI_getD t (rowS k nonce t.length) i (by omega) (by omega)
    rw [lpA_succ, SrSe_r1, decide_eq_true (by omega), cond_true, decide_eq_true (by omega), cond_true, decide_eq_true (by omega), cond_true, cond_true, Int.toNat_natCast, xor8 _ _ (t.getD i 0).toNat_lt ((rowS k nonce t.length).getD i 0).toNat_lt, ← g, rt_set _ t.length i (by omega) (by omega), wi64 (by omega) (by omega)]
    exact h
theorem ok_RefSeal : CallOk prog n_opalineref09_Seal sRefSeal := by
  refine afunc_okE (g := gI_SrSe) (fu := fun args => match args with | [_, _, _, .c (.s (.pl (.str t)))] => t.length + 1 | _ => 0) mixed gok_SrSe h_opalineref09_Seal (by kernel_rfl) ?_
  intro args r ht
  unfold sRefSeal at ht
  simp only at ht
  split at ht
  · rename_i k nonce note t
    obtain ⟨h1, h2⟩ := ctrueS ht
    subst h2
    simp only [Bool.and_eq_true, decide_eq_true_eq] at h1
    refine (SrSe_ev ..).trans ?_
    rw [run_Row h1.1 (okL3_of (by omega)) (by omega), Option.bind_some, Int.toNat_natCast, decide_eq_true (by omega), cond_true]
    exact se_loop k nonce note t h1.1 h1.2 (t.length * 1) (t.length + 1) t.length (t.length + 1) 0 (by omega) (Nat.lt_succ_self _)
  · cases ht
theorem run_RefSeal {k nonce note t : Str} (hk : okLen k = true) (hl : note.length + nonce.length + t.length ≤ 1000000) : rRefSeal [.str k, .str nonce, .str note, .str t] = some (sealS k nonce note t) := by
  have e : (okLen k && decide (note.length + nonce.length + t.length ≤ 1000000)) = true := by rw [hk, decide_eq_true hl]; rfl
  simp only [rRefSeal, sRefSeal, e, cond_true]
end Go.Eng
/- The laws SealOpens, SealSeals, SealRows. -/
namespace Go.Eng
open Go Go.Proofs
set_option linter.unusedVariables false
set_option linter.unusedSimpArgs false
theorem sealS_take32 (k nonce note t : Str) (h : nonce.length = 32) : (sealS k nonce note t).take 32 = nonce := by
  rw [sealS, List.take_append_of_le_length (by omega), List.take_of_length_le (by omega)]
theorem sealS_mid (k nonce note t : Str) (h : nonce.length = 32) : ((sealS k nonce note t).drop 32).take ((sealS k nonce note t).length - 96) = xorL t (rowS k nonce t.length) := by
  have xl := xorL_len t (rowS k nonce t.length)
  rw [rowS_len, Nat.min_self] at xl
  rw [sealS_len, h, sealS, ← h, List.drop_left, List.take_append_of_le_length (by omega), List.take_of_length_le (by omega)]
theorem sealS_end (k nonce note t : Str) (h : nonce.length = 32) : (sealS k nonce note t).drop ((sealS k nonce note t).length - 64) = sumS k note nonce (xorL t (rowS k nonce t.length)) := by
  have xl := xorL_len t (rowS k nonce t.length)
  rw [rowS_len, Nat.min_self] at xl
  rw [sealS_len, sealS, ← List.append_assoc, show nonce.length + t.length + 64 - 64 = (nonce ++ xorL t (rowS k nonce t.length)).length by rw [List.length_append, xl]; omega, List.drop_left]
theorem xorL_twice (t r : Str) (h : r.length = t.length) : xorL (xorL t r) r = t := by
  rw [xorL_back, h, Nat.min_self, List.take_length]
theorem open_seal (k nonce note t : Str) (h : nonce.length = 32) (ht : t.length ≤ 65536) (hn : note.length < 65536) : openA k note (sealS k nonce note t) = (t, 0) := by
  have l := sealS_len k nonce note t
  rw [openA, if_neg (by omega), if_neg (by omega), sealS_take32 _ _ _ _ h, sealS_mid _ _ _ _ h, sealS_end _ _ _ _ h, if_pos rfl, show (sealS k nonce note t).length - 96 = t.length by omega, xorL_twice _ _ (rowS_len _ _ _)]
noncomputable abbrev gI_SeAw : Cg := g_SeAw (Int) rSize (fun t => t) (PUnit) rTrue (PUnit) rTrue (Str × Int) rSeal (fun t => t.fst) (fun t => t.snd) (Str × Int) rOpen (fun t => t.fst) (fun t => t.snd)
theorem gok_SeAw : CfOk prog gI_SeAw.c := ⟨gam_cons ok_Size <| gam_cons ok_Awake03 <| gam_cons ok_Awake04 <| gam_cons ok_Seal <| gam_cons ok_Open <| gam_nil, fun _ _ h => by cases h⟩
theorem ok_awake09 : CallOk prog n_opalinelaw09_awake sTrue := by
  refine afunc_okE (g := gI_SeAw) (fu := fun _ => 0) mixed gok_SeAw h_opalinelaw09_awake (by kernel_rfl) ?_
  intro args t ht
  unfold sTrue at ht
  simp only at ht
  split at ht
  · cases ht
    refine (SeAw_ev ..).trans ?_
    have r := run_Size (n := 0) (by decide)
    rw [show ((0 : Nat) : Int) = 0 from rfl] at r
    rw [r, Option.bind_some, decide_eq_true (by decide : (0 : Int) + 96 = 96), Bool.not_true, cond_false, show rTrue [] = some () from rfl, Option.bind_some, Option.bind_some, b8_zeros]
    have e : sealA [107, 101, 121] (List.replicate 32 0) [110, 111, 116, 101] [116, 101, 120, 116] = (sealS [107, 101, 121] (List.replicate 32 0) [110, 111, 116, 101] [116, 101, 120, 116], 0) := by
      rw [sealA, if_neg (by decide), if_neg (by decide)]
    have o := open_seal [107, 101, 121] (List.replicate 32 0) [110, 111, 116, 101] [116, 101, 120, 116] (by decide) (by decide) (by decide)
    have l := sealS_len [107, 101, 121] (List.replicate 32 0) [110, 111, 116, 101] [116, 101, 120, 116]
    rw [run_Seal (by decide), Option.bind_some, e]
    generalize sealS [107, 101, 121] (List.replicate 32 0) [110, 111, 116, 101] [116, 101, 120, 116] = s at o l ⊢
    dsimp only
    rw [run_Open (by decide), Option.bind_some, o, decide_eq_true (rfl : (0 : Int) = 0), cond_true]
    dsimp only
    rw [l]; rfl
  · cases ht
def sTS3 : Summ where
  T := Unit
  run := fun
    | [.c (.s (.pl (.str a))), .c (.s (.pl (.str b))), .c (.s (.pl (.str c)))] => some ()
    | _ => none
  enc := fun _ => .bool true
noncomputable abbrev gI_SeLO : Cg := g_SeLO (PUnit) rTrue (Str × Int) rOpen (fun t => t.fst) (fun t => t.snd) (List UInt8) rRefSumS (fun t => t) (List UInt8) rRefSeal (fun t => t)
theorem gok_SeLO : CfOk prog gI_SeLO.c := ⟨gam_cons ok_awake09 <| gam_cons ok_Open <| gam_cons ok_RefSumS <| gam_cons ok_RefSeal <| gam_nil, fun _ _ h => by cases h⟩
theorem ok_SealOpens : CallOk prog n_opalinelaw09_SealOpens sTS3 := by
  refine afunc_okE (g := gI_SeLO) (fu := fun _ => 0) mixed gok_SeLO h_opalinelaw09_SealOpens (by kernel_rfl) ?_
  intro args r ht
  unfold sTS3 at ht
  simp only at ht
  split at ht
  · rename_i k note t
    clear ht
    refine (SeLO_ev ..).trans ?_
    rw [show rTrue [] = some () from rfl, Option.bind_some]
    have m1 := le_mx (k.length : Int) (note.length : Int)
    generalize (if ((note.length : Nat) : Int) > (k.length : Int) then (note.length : Int) else (k.length : Int)) = x at m1 ⊢
    have m2 := le_mx x (t.length : Int)
    generalize (if ((t.length : Nat) : Int) > x then (t.length : Int) else x) = y at m2 ⊢
    by_cases h : 500 < y
    · rw [decide_eq_true h]; rfl
    have ok := okLen_of (s := k) (by omega)
    rw [decide_eq_false h, cond_false, run_Open ok, Option.bind_some]
    by_cases c1 : t.length < 96
    · rw [decide_eq_true (by omega), cond_true, openA, if_pos c1]; rfl
    have w : IntKind.i64.wrap ((t.length : Int) - 64) = ((t.length - 64 : Nat) : Int) := by rw [wi64 (by omega) (by omega)]; omega
    have s1 : sl t 0 32 = t.take 32 := by rw [sl]; rfl
    have s2 : sl t 32 ((t.length - 64 : Nat) : Int) = (t.drop 32).take (t.length - 96) := by
      have := sl_nat t 32 (t.length - 64)
      rw [show ((32 : Nat) : Int) = 32 from rfl] at this
      rw [this, show t.length - 64 - 32 = t.length - 96 by omega]
    have s3 : sl t ((t.length - 64 : Nat) : Int) (t.length : Int) = t.drop (t.length - 64) := by
      rw [sl_nat, List.take_of_length_le]
      rw [List.length_drop]; omega
    have l1 : (t.take 32).length = 32 := by rw [List.length_take]; omega
    have l2 : ((t.drop 32).take (t.length - 96)).length = t.length - 96 := by rw [List.length_take, List.length_drop]; omega
    have l3 : (t.drop (t.length - 64)).length = 64 := by rw [List.length_drop]; omega
    rw [decide_eq_false (by omega), cond_false, w, decide_eq_true (by omega), cond_true, decide_eq_true (by omega), cond_true, s1, s2, s3, run_RefSumS ok (by omega), Option.bind_some, decide_eq_true (by omega), cond_true, openA, if_neg c1, if_neg (by omega)]
    by_cases c4 : sumS k note (t.take 32) ((t.drop 32).take (t.length - 96)) = t.drop (t.length - 64)
    · rw [decide_eq_true c4, Bool.not_true, cond_false, if_pos c4]
      have xl := xorL_len ((t.drop 32).take (t.length - 96)) (rowS k (t.take 32) (t.length - 96))
      rw [rowS_len, l2, Nat.min_self] at xl
      dsimp only
      rw [decide_eq_true (rfl : (0 : Int) = 0), cond_true, run_RefSeal ok (by omega), Option.bind_some]
      have e : sealS k (t.take 32) note (xorL ((t.drop 32).take (t.length - 96)) (rowS k (t.take 32) (t.length - 96))) = t := by
        rw [sealS, xl, xorL_twice _ _ (by rw [rowS_len, l2]), c4, ← List.append_assoc]
        have a1 : t.take 32 ++ (t.drop 32).take (t.length - 96) = t.take (t.length - 64) := by
          rw [show t.length - 64 = 32 + (t.length - 96) by omega, List.take_add]
        rw [a1, List.take_append_drop]
      rw [e, decide_eq_true (rfl : t = t)]; rfl
    · rw [decide_eq_false c4, Bool.not_false, cond_true, if_neg c4]; rfl
  · cases ht
def sTS4i : Summ where
  T := Unit
  run := fun
    | [.c (.s (.pl (.str a))), .c (.s (.pl (.str b))), .c (.s (.pl (.str c))), .c (.s (.pl (.str d))), .c (.s (.pl (.int .i64 n)))] => some ()
    | _ => none
  enc := fun _ => .bool true
noncomputable abbrev gI_SeLS : Cg := g_SeLS (PUnit) rTrue (Str × Int) rSeal (fun t => t.fst) (fun t => t.snd) (List UInt8) rRow (fun t => t) (List UInt8) rRow (fun t => t) (Int) rSize (fun t => t) (List UInt8) rRefSeal (fun t => t)
theorem gok_SeLS : CfOk prog gI_SeLS.c := ⟨gam_cons ok_awake09 <| gam_cons ok_Seal <| gam_cons ok_Row <| gam_cons ok_RefRow <| gam_cons ok_Size <| gam_cons ok_RefSeal <| gam_nil, fun _ _ h => by cases h⟩
theorem ok_SealSeals : CallOk prog n_opalinelaw09_SealSeals sTS4i := by
  refine afunc_okE (g := gI_SeLS) (fu := fun _ => 0) mixed gok_SeLS h_opalinelaw09_SealSeals (by kernel_rfl) ?_
  intro args r ht
  unfold sTS4i at ht
  simp only at ht
  split at ht
  · rename_i k nonce note t n
    clear ht
    refine (SeLS_ev ..).trans ?_
    rw [show rTrue [] = some () from rfl, Option.bind_some]
    have m1 := le_mx (k.length : Int) (nonce.length : Int)
    generalize (if ((nonce.length : Nat) : Int) > (k.length : Int) then (nonce.length : Int) else (k.length : Int)) = x at m1 ⊢
    have m2 := le_mx x (note.length : Int)
    generalize (if ((note.length : Nat) : Int) > x then (note.length : Int) else x) = y at m2 ⊢
    have m3 := le_mx y (t.length : Int)
    generalize (if ((t.length : Nat) : Int) > y then (t.length : Int) else y) = z at m3 ⊢
    have m4 := le_mx z n
    generalize (if n > z then n else z) = u at m4 ⊢
    by_cases h : 500 < u
    · rw [decide_eq_true h]; rfl
    have ok := okLen_of (s := k) (by omega)
    have on := okL3_of (s := nonce) (by omega)
    rw [decide_eq_false h, cond_false, run_Seal ok, Option.bind_some, run_Row ok on (by omega), Option.bind_some, Option.bind_some, decide_eq_true rfl, Bool.not_true, cond_false, run_Size (by omega), Option.bind_some, wi64 (by omega) (by omega), decide_eq_true rfl, Bool.not_true, cond_false]
    by_cases c1 : nonce.length = 32
    · rw [decide_eq_true (by omega), Bool.not_true, cond_false, sealA, if_neg (fun h => h c1), if_neg (by omega)]
      dsimp only
      rw [decide_eq_true (rfl : (0 : Int) = 0), cond_true, run_RefSeal ok (by omega), Option.bind_some, decide_eq_true rfl]; rfl
    · rw [decide_eq_false (by omega), Bool.not_false, cond_true, sealA, if_pos c1]; rfl
  · cases ht
def sTSaSS : Summ where
  T := Unit
  run := fun
    | [.c (.s (.pl (.str k))), .c (.s (.pl (.agg (.ints .u8 x) 32))), .c (.s (.pl (.str a))), .c (.s (.pl (.str b)))] => cond (Nat.beq x.length 32) (some ()) none
    | _ => none
  enc := fun _ => .bool true
noncomputable abbrev gI_SeLR : Cg := g_SeLR (PUnit) rTrue (Str × Int) rSeal (fun t => t.fst) (fun t => t.snd) (List UInt8) rRow (fun t => t) (Int) rSize (fun t => t)
theorem gok_SeLR : CfOk prog gI_SeLR.c := ⟨gam_cons ok_awake09 <| gam_cons ok_Seal <| gam_cons ok_Row <| gam_cons ok_Size <| gam_nil, fun _ _ h => by cases h⟩
theorem slr_copy (k a b : Str) (x : List Int) (hx : x.length = 32) (m fu : Nat) : ∀ (d n i : Nat), i + d = 32 → d < n →
    lpA prog gI_SeLR fu SeLR_b1 (SeLR_k1 _ rTrue _ rSeal (fun t => t.1) (fun t => t.2) _ rRow (fun t => t) _ rSize (fun t => t) fu) n (some (SeLR_s1 k a b 32 32 (i : Int) x m (x.take i ++ List.replicate (32 - i) 0))) =
      SeLR_k1 _ rTrue _ rSeal (fun t => t.1) (fun t => t.2) _ rRow (fun t => t) _ rSize (fun t => t) fu (.exit 0) (SeLR_o1e0 k a b 32 m x) := by
  intro d
  induction d with
  | zero =>
    intro n i hi hn
    obtain ⟨n, rfl⟩ := Nat.exists_eq_succ_of_ne_zero (by omega : n ≠ 0)
    have e : i = 32 := by omega
    subst e
    rw [lpA_succ, SeLR_r1, decide_eq_false (by decide), cond_false, kOut_some, Nat.sub_self, List.replicate_zero, List.append_nil, List.take_of_length_le (by omega)]
  | succ d ih =>
    intro n i hi hn
    obtain ⟨n, rfl⟩ := Nat.exists_eq_succ_of_ne_zero (by omega : n ≠ 0)
    have h := ih n (i + 1) (by omega) (by omega)
    rw [lpA_succ, SeLR_r1, decide_eq_true (by omega), cond_true, decide_eq_true (by omega), cond_true, decide_eq_true (by omega), cond_true, Int.toNat_natCast, Nat.zero_add, rt_set x 32 i hx (by omega), wi64 (by omega) (by omega)]
    exact h
theorem row_getD (k nonce : Str) (n i : Nat) (h : i < n) (hn : n ≤ 500) : (rowS k nonce n).getD i 0 = (rowS k nonce 500).getD i 0 := by
  have := rowW_take (wholeS (hideK k)) nonce n 500 hn
  rw [rowS, rowS, ← this]
  simp only [List.getD_eq_getElem?_getD, List.getElem?_take, h, if_true]
theorem seal_getD (k nonce t : Str) (hn : nonce.length = 32) (ht : t.length ≤ 400) (i : Nat) (hi : i < t.length) : (((sealS k nonce [] t).getD (32 + i) 0).toNat : Int) = (((t.getD i 0).toNat ^^^ ((rowS k nonce 500).getD i 0).toNat : Nat) : Int) := by
  have xl := xorL_len t (rowS k nonce t.length)
  rw [rowS_len, Nat.min_self] at xl
  have e : (sealS k nonce [] t).getD (32 + i) 0 = (xorL t (rowS k nonce t.length)).getD i 0 := by
    rw [sealS, List.getD_eq_getElem?_getD, List.getElem?_append_right (by omega), hn, Nat.add_sub_cancel_left, List.getElem?_append_left (by omega), List.getD_eq_getElem?_getD]
  rw [e, xorL_getD _ _ i hi (by rw [rowS_len]; exact hi), row_getD _ _ _ _ hi (by omega)]
theorem xor_cancel (x y r : UInt8) : x.toNat ^^^ r.toNat = y.toNat ^^^ r.toNat ↔ x.toNat = y.toNat := by
  constructor
  · intro h
    have := congrArg (fun z => z ^^^ r.toNat) h
    simpa only [Nat.xor_assoc, Nat.xor_self, Nat.xor_zero] using this
  · intro h; rw [h]
theorem seal_inj (k nonce a b : Str) (h : nonce.length = 32) : sealS k nonce [] a = sealS k nonce [] b ↔ a = b := by
  constructor
  · intro e
    have l := congrArg List.length e
    rw [sealS_len, sealS_len] at l
    have la : a.length = b.length := by omega
    have m := sealS_mid k nonce [] a h
    rw [e, sealS_mid k nonce [] b h, la] at m
    rw [← xorL_twice a (rowS k nonce b.length) (by rw [rowS_len, la]), ← m, xorL_twice b _ (rowS_len _ _ _)]
  · rintro rfl; rfl
theorem slr_main (k a b : Str) (nonce : Str) (hn : nonce.length = 32) (ha : a.length ≤ 400) (hb : b.length ≤ 400) (N fu : Nat) (hN : N = min a.length b.length) : ∀ (d n i : Nat), i + d = N → d < n →
    lpA prog gI_SeLR fu SeLR_b2 (SeLR_k2 _ rTrue _ rSeal (fun t => t.1) (fun t => t.2) _ rRow (fun t => t) _ rSize (fun t => t) fu) n (some (SeLR_s2 a b (sealS k nonce [] a) (sealS k nonce [] b) (N : Int) (i : Int))) = some (.bool true) := by
  have la := sealS_len k nonce [] a
  have lb := sealS_len k nonce [] b
  intro d
  induction d with
  | zero =>
    intro n i hi hnn
    obtain ⟨n, rfl⟩ := Nat.exists_eq_succ_of_ne_zero (by omega : n ≠ 0)
    rw [lpA_succ, SeLR_r2, decide_eq_false (by omega), cond_false, kOut_some, SeLR_c2e2, run_Size (by omega), Option.bind_some, decide_eq_true (by omega), decide_eq_decide.2 (seal_inj k nonce a b hn), Bool.true_and]
    cases decide (a = b) <;> rfl
  | succ d ih =>
    intro n i hi hnn
    obtain ⟨n, rfl⟩ := Nat.exists_eq_succ_of_ne_zero (by omega : n ≠ 0)
    have h := ih n (i + 1) (by omega) (by omega)
    have w : IntKind.i64.wrap ((32 : Int) + (i : Int)) = ((32 + i : Nat) : Int) := by rw [wi64 (by omega) (by omega)]; omega
    have e : decide (((((a.getD i 0).toNat ^^^ ((rowS k nonce 500).getD i 0).toNat : Nat)) : Int) = ((((b.getD i 0).toNat ^^^ ((rowS k nonce 500).getD i 0).toNat : Nat)) : Int)) = decide (((a.getD i 0).toNat : Int) = ((b.getD i 0).toNat : Int)) :=
      decide_eq_decide.2 (by rw [Int.natCast_inj, Int.natCast_inj]; exact xor_cancel _ _ _)
    rw [lpA_succ, SeLR_r2, decide_eq_true (by omega), cond_true, w, decide_eq_true (by omega), cond_true, decide_eq_true (by omega), cond_true, decide_eq_true (by omega), cond_true, decide_eq_true (by omega), cond_true, Int.toNat_natCast, Int.toNat_natCast, seal_getD k nonce a hn ha i (by omega), seal_getD k nonce b hn hb i (by omega), e, wi64 (by omega) (by omega)]
    cases decide (((a.getD i 0).toNat : Int) = ((b.getD i 0).toNat : Int)) <;> exact h
theorem ok_SealRows : CallOk prog n_opalinelaw09_SealRows sTSaSS := by
  refine afunc_okE (g := gI_SeLR) (fu := fun _ => 500) mixed gok_SeLR h_opalinelaw09_SealRows (by kernel_rfl) ?_
  intro args r ht
  unfold sTSaSS at ht
  simp only at ht
  split at ht
  · rename_i k x a b
    obtain ⟨h1, h2⟩ := ctrueS ht
    have hx := Nat.eq_of_beq_eq_true h1
    clear ht
    refine (SeLR_ev ..).trans ?_
    rw [show rTrue [] = some () from rfl, Option.bind_some]
    have m1 := le_mx (k.length : Int) (a.length : Int)
    generalize (if ((a.length : Nat) : Int) > (k.length : Int) then (a.length : Int) else (k.length : Int)) = y at m1 ⊢
    have m2 := le_mx y (b.length : Int)
    generalize (if ((b.length : Nat) : Int) > y then (b.length : Int) else y) = z at m2 ⊢
    by_cases h : 400 < z
    · rw [decide_eq_true h]; rfl
    have ok := okLen_of (s := k) (by omega)
    rw [decide_eq_false h, cond_false]
    have c := slr_copy k a b x hx 32 500 32 500 0 (by omega) (by decide)
    refine Eq.trans c ?_
    have hn : (x.map b8).length = 32 := by rw [List.length_map, hx]
    have on := okL3_of (s := x.map b8) (by omega)
    have ea : ∀ t : Str, t.length ≤ 400 → sealA k (x.map b8) [] t = (sealS k (x.map b8) [] t, 0) := fun t ht => by
      rw [sealA, if_neg (fun h => h hn), if_neg (by simp; omega)]
    rw [SeLR_c1e0, run_Seal ok, Option.bind_some, run_Seal ok, Option.bind_some, ea a (by omega), ea b (by omega)]
    dsimp only
    rw [decide_eq_true (rfl : (0 : Int) = 0), Bool.not_true, cond_false, cond_false]
    have r5 := run_Row (n := 500) ok on (by decide)
    rw [show Int.toNat 500 = 500 from rfl] at r5
    have e2 : sl (rowS k (x.map b8) 500) 0 (a.length : Int) = rowS k (x.map b8) a.length := by
      rw [sl, show Int.toNat 0 = 0 from rfl, List.drop_zero, show ((a.length : Int) - 0).toNat = a.length by omega]
      exact rowW_take _ _ _ _ (by omega)
    rw [r5, Option.bind_some, rowS_len, decide_eq_true (by omega), cond_true, run_Row ok on (by omega), Option.bind_some, Int.toNat_natCast, e2, decide_eq_true rfl, Bool.not_true, cond_false, minL']
    exact slr_main k a b (x.map b8) hn (by omega) (by omega) (min a.length b.length) 500 rfl (min a.length b.length) 500 0 (by omega) (by omega)
  · cases ht
end Go.Eng
