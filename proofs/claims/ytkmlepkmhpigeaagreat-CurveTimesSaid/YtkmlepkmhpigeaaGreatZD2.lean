/- Texts of this claim, one behind the other: Fp8, Cv5, CuE, GCu6, PCd3. -/
import Derived.KernelRfl
import Derived.Test.YtkmlepkmhpigeaaGreatEngNums
import Derived.Test.YtkmlepkmhpigeaaGreatZD1
import Derived.Test.YtkmlepkmhpigeaaGreatZF3
import Derived.Test.YtkmlepkmhpigeaaGreatZG2
import Derived.Test.YtkmlepkmhpigeaaGreatZG3
/- The curve's order is a prime. -/
namespace Go.Eng
set_option linter.unusedVariables false
end Go.Eng
/- The document's points stand for the group's; the multiples of the base are told apart. -/
namespace Go.Eng
open Go Go.Proofs
set_option linter.unusedVariables false
/-- r stands for g -/
structure RPT (r : RP) (g : CP.G) : Prop where
  ok : r.ok
  z : fn r.z ≠ 0
  x : fn r.x = g.1.1 * fn r.z
  y : fn r.y = g.1.2 * fn r.z
theorem fn_subR {a b : Nat} (h : b < P25) : fn (a + P25 - b) = fn a - fn b := by
  have e : fn (a + P25 - b + b) = fn a := by
    rw [Nat.sub_add_cancel (by omega)]
    exact fn_eq.2 (Nat.add_mod_right _ _)
  rw [fn_add] at e
  grind (splits := 0) -lia -linarith
section
variable {q : Nat} [NeZero q]
theorem rg1 {x1 y1 x2 y2 z1 z2 d p : Fin q} (hp : p = 1 + d * x1 * y1 * x2 * y2) : z1 * z2 * (z1 * z2) + d * (x1 * z1 * (x2 * z2) * (y1 * z1 * (y2 * z2))) = z1 * z2 * (z1 * z2) * p := by
  subst hp
  grind (splits := 0) -lia -linarith
theorem rg2 {x1 y1 x2 y2 z1 z2 d m : Fin q} (hm : m = 1 - d * x1 * y1 * x2 * y2) : z1 * z2 * (z1 * z2) - d * (x1 * z1 * (x2 * z2) * (y1 * z1 * (y2 * z2))) = z1 * z2 * (z1 * z2) * m := by
  subst hm
  grind (splits := 0) -lia -linarith
theorem rg3 {x1 y1 x2 y2 z1 z2 X p f : Fin q} (hX : X * p = x1 * y2 + x2 * y1) : z1 * z2 * f * (x1 * z1 * (y2 * z2) + y1 * z1 * (x2 * z2)) = X * (f * (z1 * z2 * (z1 * z2) * p)) := by
  grind (splits := 0) -lia -linarith
theorem rg4 {x1 y1 x2 y2 z1 z2 Y m f : Fin q} (hY : Y * m = y1 * y2 + x1 * x2) : z1 * z2 * f * (y1 * z1 * (y2 * z2) + x1 * z1 * (x2 * z2)) = Y * (z1 * z2 * (z1 * z2) * m * f) := by
  grind (splits := 0) -lia -linarith
end
theorem RPT_add {p r : RP} {g h : CP.G} (hp : RPT p g) (hr : RPT r h) : RPT (addR p r dQN) (CP.add g h) := by
  have hX := CP.ad_x g.2 h.2
  have hY := CP.ad_y g.2 h.2
  have p0 := CP.dp_ne g.2 h.2
  have m0 := CP.dm_ne g.2 h.2
  have eB : fn (p.z * r.z % P25 * (p.z * r.z % P25) % P25) = fn p.z * fn r.z * (fn p.z * fn r.z) := by rw [fn_mod, fn_mul, fn_mod, fn_mul]
  have eE : fn (dQN * (p.x * r.x % P25 * (p.y * r.y % P25) % P25) % P25) = CP.d * (g.1.1 * fn p.z * (h.1.1 * fn r.z) * (g.1.2 * fn p.z * (h.1.2 * fn r.z))) := by
    rw [fn_mod, fn_mul, fn_mod, fn_mul, fn_mod, fn_mul, fn_mod, fn_mul, hp.x, hp.y, hr.x, hr.y]; rfl
  have lE : dQN * (p.x * r.x % P25 * (p.y * r.y % P25) % P25) % P25 < P25 := mP _
  have eF : fn ((p.z * r.z % P25 * (p.z * r.z % P25) % P25 + P25 - dQN * (p.x * r.x % P25 * (p.y * r.y % P25) % P25) % P25) % P25) = fn p.z * fn r.z * (fn p.z * fn r.z) * CP.dm g.1 h.1 := by
    rw [fn_mod, fn_subR lE, eB, eE]
    exact rg2 rfl
  have eG : fn ((p.z * r.z % P25 * (p.z * r.z % P25) % P25 + dQN * (p.x * r.x % P25 * (p.y * r.y % P25) % P25) % P25) % P25) = fn p.z * fn r.z * (fn p.z * fn r.z) * CP.dp g.1 h.1 := by
    rw [fn_mod, fn_add, eB, eE]
    exact rg1 rfl
  have hz : fn p.z * fn r.z ≠ 0 := CP.mul_ne hp.z hr.z
  have hz2 := CP.mul_ne hz hz
  have key : ∀ F G : Nat, fn F = fn p.z * fn r.z * (fn p.z * fn r.z) * CP.dm g.1 h.1 → fn G = fn p.z * fn r.z * (fn p.z * fn r.z) * CP.dp g.1 h.1 →
      (fn (F * G % P25) ≠ 0 ∧ fn (p.z * r.z % P25 * F % P25 * ((p.x * r.y % P25 + p.y * r.x % P25) % P25) % P25) = (CP.add g h).1.1 * fn (F * G % P25)) ∧
        fn (p.z * r.z % P25 * G % P25 * ((p.y * r.y % P25 + p.x * r.x % P25) % P25) % P25) = (CP.add g h).1.2 * fn (F * G % P25) := by
    intro F G hF hG
    refine ⟨⟨?_, ?_⟩, ?_⟩
    · rw [fn_mod, fn_mul, hF, hG]
      exact CP.mul_ne (CP.mul_ne hz2 m0) (CP.mul_ne hz2 p0)
    · rw [fn_mod, fn_mul, fn_mod, fn_mul, fn_mod, fn_mul, fn_mod, fn_add, fn_mod, fn_mul, fn_mod, fn_mul, fn_mod, fn_mul, hp.x, hp.y, hr.x, hr.y, hG]
      exact rg3 hX
    · rw [fn_mod, fn_mul, fn_mod, fn_mul, fn_mod, fn_mul, fn_mod, fn_add, fn_mod, fn_mul, fn_mod, fn_mul, fn_mod, fn_mul, hp.x, hp.y, hr.x, hr.y, hF]
      exact rg4 hY
  have k := key _ _ eF eG
  exact ⟨addR_ok _ _ _, k.1.1, k.1.2, k.2⟩
theorem RPT_neut : RPT neutR CP.zero := by
  refine ⟨neutR_ok, ?_, ?_, ?_⟩
  · show fn 1 ≠ 0
    rw [fn_one]; exact CP.h1
  · show fn 0 = 0 * fn 1
    rw [fn_zero, Fin.zero_mul]
  · show fn 1 = 1 * fn 1
    rw [Fin.one_mul]
theorem RPT_base : RPT baseR gB := by
  refine ⟨⟨by decide, by decide, by decide⟩, ?_, ?_, ?_⟩
  · show fn 1 ≠ 0
    rw [fn_one]; exact CP.h1
  · show fn bxN = fn bxN * fn 1
    rw [fn_one, Fin.mul_one]
  · show fn byN = fn byN * fn 1
    rw [fn_one, Fin.mul_one]
theorem RPT_steps {p : RP} {g : CP.G} (hp : RPT p g) (A : Nat) : ∀ (n m : Nat) (c : RP), RPT c (CP.nsm m g) → RPT ((bitsDn A n).foldl (stepR p dQN) c) (CP.nsm (m * 2 ^ n + A % 2 ^ n) g) := by
  intro n
  induction n with
  | zero => intro m c hc; rw [Nat.pow_zero, Nat.mod_one, Nat.mul_one, Nat.add_zero]; exact hc
  | succ n ih =>
    intro m c hc
    show RPT ((bitsDn A n).foldl (stepR p dQN) (stepR p dQN c (bitL A n))) _
    have hd : RPT (addR c c dQN) (CP.nsm (m + m) g) := by rw [CP.nsm_add]; exact RPT_add hc hc
    have key : ∀ (b : Nat), b = A / 2 ^ n % 2 → RPT (stepR p dQN c (Nat.beq b 1)) (CP.nsm (m + m + b) g) := by
      intro b hb
      have hb2 : b < 2 := by rw [hb]; exact Nat.mod_lt _ (by omega)
      match b, hb2 with
      | 0, _ => exact hd
      | 1, _ => exact RPT_add hd hp
    have h1 := ih (m + m + A / 2 ^ n % 2) _ (key _ rfl)
    have e : (m + m + A / 2 ^ n % 2) * 2 ^ n + A % 2 ^ n = m * 2 ^ (n + 1) + A % 2 ^ (n + 1) := by
      have h2 : A % 2 ^ (n + 1) = A % 2 ^ n + 2 ^ n * (A / 2 ^ n % 2) := by rw [Nat.pow_succ, Nat.mod_mul]
      rw [h2, Nat.pow_succ]
      generalize 2 ^ n = K
      generalize A / K % 2 = b
      generalize A % K = r
      rw [Nat.add_mul, Nat.add_mul, ← Nat.mul_assoc, Nat.mul_two, Nat.mul_comm b]
      omega
    rw [← e]
    exact h1
theorem RPT_times {p : RP} {g : CP.G} (hp : RPT p g) (A : Nat) : RPT (timesR p A dQN) (CP.nsm A g) := by
  have := RPT_steps hp A (bl A) 0 neutR RPT_neut
  rw [Nat.zero_mul, Nat.zero_add, Nat.mod_eq_of_lt (bl_spec A).1] at this
  exact this
theorem ph_mod (x : Fe) : fn (fv x % P25) = ph x := fn_mod _
theorem nb_pos {c : Nat} (h : c ≠ 0) : 0 < (nb c).length := by
  rcases Nat.eq_zero_or_pos (nb c).length with h0 | h0
  · exfalso
    have h1 := vB_nb c
    rw [List.length_eq_zero_iff.1 h0] at h1
    exact h h1.symm
  · exact h0
/-- whether a point is the document's -/
theorem is_true {p : Pt} {r : RP} {g : CP.G} (hp : PT p g) (hr : RPT r g) : isR p r = true := by
  unfold isR
  have h1 : 0 < (nb (fv p.z % P25)).length := nb_pos fun h => hp.z (by rw [← ph_mod, h, fn_zero])
  have hx := hp.x
  have hy := hp.y
  have ht := hp.t
  have h2 : Nat.beq (fv p.x % P25 * r.z % P25) (r.x * (fv p.z % P25) % P25) = true := by
    have : fn (fv p.x % P25 * r.z) = fn (r.x * (fv p.z % P25)) := by
      rw [fn_mul, fn_mul, ph_mod, ph_mod, hp.x, hr.x]
      clear hx hy ht
      grind (splits := 0) -lia -linarith
    rw [fn_eq.1 this]; exact Nat.beq_refl _
  have h3 : Nat.beq (fv p.y % P25 * r.z % P25) (r.y * (fv p.z % P25) % P25) = true := by
    have : fn (fv p.y % P25 * r.z) = fn (r.y * (fv p.z % P25)) := by
      rw [fn_mul, fn_mul, ph_mod, ph_mod, hp.y, hr.y]
      clear hx hy ht
      grind (splits := 0) -lia -linarith
    rw [fn_eq.1 this]; exact Nat.beq_refl _
  have h4 : samF (mulF p.x p.y) (mulF p.z p.t) = true := by
    rw [ph_sam, ph_mul, ph_mul, hx, hy, ht]
    clear hx hy ht
    grind (splits := 0) -lia -linarith
  rw [decide_eq_true h1, h2, h3, h4]; rfl
end Go.Eng
/- curve.Sum of three points, of none: the contract. -/
namespace Go.Eng
open Go Go.Proofs
set_option linter.unusedVariables false
set_option linter.unusedSimpArgs false
end Go.Eng
/- GENERATED by gen.py: what the evaluator comes to at these functions. -/
namespace Go.Eng
open Go Go.Proofs
set_option linter.unusedVariables false
set_option linter.unusedSimpArgs false
section
variable (T0 : Type) (R0 : List AV → Option T0) (f0a : T0 → List Int) (T1 : Type) (R1 : List AV → Option T1) (f1a : T1 → List Int) (T2 : Type) (R2 : List AV → Option T2) (f2a : T2 → List Int)
end
section
variable (T0 : Type) (R0 : List AV → Option T0) (f0a : T0 → List Int) (T1 : Type) (R1 : List AV → Option T1) (f1a : T1 → List Int) (T2 : Type) (R2 : List AV → Option T2) (f2a : T2 → List Int)
end
section
variable (T0 : Type) (R0 : List AV → Option T0) (f0a : T0 → List Int) (T1 : Type) (R1 : List AV → Option T1) (f1a : T1 → List Int) (T2 : Type) (R2 : List AV → Option T2) (f2a : T2 → List Int)
end
noncomputable def g_DLT (T0 : Type) (R0 : List AV → Option T0) (T1 : Type) (R1 : List AV → Option T1) (f1a : T1 → List Int) (f1b : T1 → Nat) (T2 : Type) (R2 : List AV → Option T2) (f2a : T2 → List Int) (f2b : T2 → List Int) (f2c : T2 → Nat) (T3 : Type) (R3 : List AV → Option T3) (T4 : Type) (R4 : List AV → Option T4) (f4a : T4 → Bool) (T5 : Type) (R5 : List AV → Option T5) (f5a : T5 → List Int) (T6 : Type) (R6 : List AV → Option T6) (T7 : Type) (R7 : List AV → Option T7) (f7a : T7 → Bool) (T8 : Type) (R8 : List AV → Option T8) (f8a : T8 → List Int) (T9 : Type) (R9 : List AV → Option T9) (f9a : T9 → List Int) (f9b : T9 → Nat) (f9c : T9 → List Int) (f9d : T9 → Nat) (f9e : T9 → List Int) (f9f : T9 → Nat) : Cg := ⟨⟨gam [(n_opalinelaw07_awake, ⟨R0, fun t => AV.bool (true)⟩), (n_opalineref07_D, ⟨R1, fun t => AV.s (SV.dat (TRow.ints IntKind.i64 (f1a t)) (f1b t) 1)⟩), (n_opalinelaw07_some, ⟨R2, fun t => AV.tup [CV.s (SV.pl (Pl.agg (TRow.ints IntKind.u64 (f2a t)) 8)), CV.s (SV.dat (TRow.ints IntKind.i64 (f2b t)) (f2c t) 1)]⟩), (n_curve_D, ⟨R3, fun t => AV.agg (TRow.ints IntKind.u64 ([929955233495203, 466365720129213, 1662059464998953, 2033849074728123, 1442794654840575])) 5⟩), (n_opalinelaw05_Is, ⟨R4, fun t => AV.bool (f4a t)⟩), (n_curve_Base, ⟨R5, fun t => AV.agg (TRow.ints IntKind.u64 (f5a t)) 20⟩), (n_opalineref07_Base, ⟨R6, fun t => AV.c (CV.mix [SV.dat (TRow.ints IntKind.i64 (nb 15112221349535400772501151409588531511454012693041857206046113283949847762202)) (32) 1, SV.dat (TRow.ints IntKind.i64 (nb 46316835694926478169428394003475163141307993866256225615783033603165251855960)) (32) 1, SV.dat (TRow.ints IntKind.i64 (nb 1)) (1) 1])⟩), (n_opalinelaw07_Is, ⟨R7, fun t => AV.bool (f7a t)⟩), (n_curve_Point_Times, ⟨R8, fun t => AV.agg (TRow.ints IntKind.u64 (f8a t)) 20⟩), (n_opalineref07_Times, ⟨R9, fun t => AV.c (CV.mix [SV.dat (TRow.ints IntKind.i64 (f9a t)) (f9b t) 1, SV.dat (TRow.ints IntKind.i64 (f9c t)) (f9d t) 1, SV.dat (TRow.ints IntKind.i64 (f9e t)) (f9f t) 1])⟩)], [], noE⟩, []⟩
section
variable (T0 : Type) (R0 : List AV → Option T0) (T1 : Type) (R1 : List AV → Option T1) (f1a : T1 → List Int) (f1b : T1 → Nat) (T2 : Type) (R2 : List AV → Option T2) (f2a : T2 → List Int) (f2b : T2 → List Int) (f2c : T2 → Nat) (T3 : Type) (R3 : List AV → Option T3) (T4 : Type) (R4 : List AV → Option T4) (f4a : T4 → Bool) (T5 : Type) (R5 : List AV → Option T5) (f5a : T5 → List Int) (T6 : Type) (R6 : List AV → Option T6) (T7 : Type) (R7 : List AV → Option T7) (f7a : T7 → Bool) (T8 : Type) (R8 : List AV → Option T8) (f8a : T8 → List Int) (T9 : Type) (R9 : List AV → Option T9) (f9a : T9 → List Int) (f9b : T9 → Nat) (f9c : T9 → List Int) (f9d : T9 → Nat) (f9e : T9 → List Int) (f9f : T9 → Nat)
theorem DLT_ev (fu : Nat) (a : List Int) : afunc prog f_opalinelaw07_CurveTimes (g_DLT T0 R0 T1 R1 f1a f1b T2 R2 f2a f2b f2c T3 R3 T4 R4 f4a T5 R5 f5a T6 R6 T7 R7 f7a T8 R8 f8a T9 R9 f9a f9b f9c f9d f9e f9f) fu [AV.agg (TRow.ints IntKind.u8 a) (32 : Nat)] =
  (R0 []).bind fun (t : T0) =>
    (R1 []).bind fun (t : T1) =>
      (R2 [AV.agg (TRow.ints IntKind.u8 a) (32 : Nat)]).bind fun (t_1 : T2) =>
        (R3 []).bind fun (t_2 : T3) =>
          (R4
                [AV.agg (TRow.ints IntKind.u64 [(929955233495203 : Int), (466365720129213 : Int), (1662059464998953 : Int), (2033849074728123 : Int), (1442794654840575 : Int)]) (5 : Nat),
                  AV.s (SV.dat (TRow.ints IntKind.i64 (f1a t)) (f1b t) (1 : Nat))]).bind
            fun (t_3 : T4) =>
            bif f4a t_3 then
              (R5 []).bind fun (t_4 : T5) =>
                (R6 [AV.s (SV.dat (TRow.ints IntKind.i64 (f1a t)) (f1b t) (1 : Nat))]).bind fun (t_5 : T6) =>
                  (R7
                        [AV.agg (TRow.ints IntKind.u64 (f5a t_4)) (20 : Nat),
                          AV.c
                            (CV.mix
                              [SV.dat (TRow.ints IntKind.i64 (nb (15112221349535400772501151409588531511454012693041857206046113283949847762202 : Nat))) (32 : Nat) (1 : Nat),
                                SV.dat (TRow.ints IntKind.i64 (nb (46316835694926478169428394003475163141307993866256225615783033603165251855960 : Nat))) (32 : Nat) (1 : Nat),
                                SV.dat (TRow.ints IntKind.i64 (nb (1 : Nat))) (1 : Nat) (1 : Nat)])]).bind
                    fun (t_6 : T7) =>
                    bif f7a t_6 then
                      (R5 []).bind fun (t_7 : T5) =>
                        (R8 [AV.agg (TRow.ints IntKind.u64 (f5a t_7)) (20 : Nat), AV.agg (TRow.ints IntKind.u64 (f2a t_1)) (8 : Nat)]).bind fun (t_8 : T8) =>
                          (R6 [AV.s (SV.dat (TRow.ints IntKind.i64 (f1a t)) (f1b t) (1 : Nat))]).bind fun (t_9 : T6) =>
                            (R9
                                  [AV.c
                                      (CV.mix
                                        [SV.dat (TRow.ints IntKind.i64 (nb (15112221349535400772501151409588531511454012693041857206046113283949847762202 : Nat))) (32 : Nat) (1 : Nat),
                                          SV.dat (TRow.ints IntKind.i64 (nb (46316835694926478169428394003475163141307993866256225615783033603165251855960 : Nat))) (32 : Nat) (1 : Nat),
                                          SV.dat (TRow.ints IntKind.i64 (nb (1 : Nat))) (1 : Nat) (1 : Nat)]),
                                    AV.s (SV.dat (TRow.ints IntKind.i64 (f2b t_1)) (f2c t_1) (1 : Nat)), AV.s (SV.dat (TRow.ints IntKind.i64 (f1a t)) (f1b t) (1 : Nat))]).bind
                              fun (t : T9) =>
                              (R7
                                    [AV.agg (TRow.ints IntKind.u64 (f8a t_8)) (20 : Nat),
                                      AV.c
                                        (CV.mix
                                          [SV.dat (TRow.ints IntKind.i64 (f9a t)) (f9b t) (1 : Nat), SV.dat (TRow.ints IntKind.i64 (f9c t)) (f9d t) (1 : Nat),
                                            SV.dat (TRow.ints IntKind.i64 (f9e t)) (f9f t) (1 : Nat)])]).bind
                                fun (t : T7) => some (AV.bool (f7a t))
                    else some (AV.bool false)
            else some (AV.bool false) := by kernel_rfl
end
section
variable (T0 : Type) (R0 : List AV → Option T0) (T1 : Type) (R1 : List AV → Option T1) (f1a : T1 → List Int) (f1b : T1 → Nat) (T2 : Type) (R2 : List AV → Option T2) (T3 : Type) (R3 : List AV → Option T3) (f3a : T3 → List Int) (T4 : Type) (R4 : List AV → Option T4) (f4a : T4 → List Int) (T5 : Type) (R5 : List AV → Option T5) (f5a : T5 → List Int) (T6 : Type) (R6 : List AV → Option T6) (f6a : T6 → List Int) (f6b : T6 → Nat) (T7 : Type) (R7 : List AV → Option T7) (f7a : T7 → List Int) (f7b : T7 → Nat) (f7c : T7 → List Int) (f7d : T7 → Nat) (f7e : T7 → List Int) (f7f : T7 → Nat) (T8 : Type) (R8 : List AV → Option T8) (f8a : T8 → List Int) (f8b : T8 → Nat) (f8c : T8 → List Int) (f8d : T8 → Nat) (T9 : Type) (R9 : List AV → Option T9) (f9a : T9 → List Int) (T10 : Type) (R10 : List AV → Option T10) (f10a : T10 → List Int) (T11 : Type) (R11 : List AV → Option T11) (f11a : T11 → List Int) (f11b : T11 → Int) (T12 : Type) (R12 : List AV → Option T12) (f12a : T12 → List Int) (T13 : Type) (R13 : List AV → Option T13) (f13a : T13 → List Int) (f13b : T13 → Nat) (f13c : T13 → List Int) (f13d : T13 → Nat) (f13e : T13 → List Int) (f13f : T13 → Nat) (T14 : Type) (R14 : List AV → Option T14) (f14a : T14 → Bool) (T15 : Type) (R15 : List AV → Option T15) (f15a : T15 → List Int) (T16 : Type) (R16 : List AV → Option T16) (f16a : T16 → List Int) (T17 : Type) (R17 : List AV → Option T17) (f17a : T17 → List Int) (f17b : T17 → Nat) (T18 : Type) (R18 : List AV → Option T18) (f18a : T18 → Bool) (T19 : Type) (R19 : List AV → Option T19) (f19a : T19 → Bool) (T20 : Type) (R20 : List AV → Option T20) (f20a : T20 → List Int) (T21 : Type) (R21 : List AV → Option T21) (f21a : T21 → List Int) (f21b : T21 → Nat) (f21c : T21 → List Int) (f21d : T21 → Nat) (f21e : T21 → List Int) (f21f : T21 → Nat) (T22 : Type) (R22 : List AV → Option T22) (f22a : T22 → List Int) (f22b : T22 → List Int) (f22c : T22 → List Int) (f22d : T22 → List Int) (T23 : Type) (R23 : List AV → Option T23) (f23a : T23 → List Int)
end
end Go.Eng
/- curve.Sum; CurveTimes. -/
namespace Go.Eng
open Go Go.Proofs
set_option linter.unusedVariables false
set_option linter.unusedSimpArgs false
set_option maxRecDepth 4000
theorem bstep {α β : Type} {o : Option α} {a : α} {k : α → Option β} {r : Option β} (h : o = some a) (hk : k a = r) : o.bind k = r := by
  subst h; exact hk
theorem cstep {β : Type} {b : Bool} {x y r : Option β} (h : b = true) (hk : x = r) : cond b x y = r := by
  subst h; exact hk
/-! ## CurveTimes -/
noncomputable abbrev gI_DLT : Cg := g_DLT (PUnit) rTrue (Nat) rRD (fun t => nb t) (fun t => (nb t).length) (Nat) rSome7 (fun t => lim 8 t) (fun t => nb t) (fun t => (nb t).length) (PUnit) rCD (Bool) rIs (fun t => t) (Pt) rBase (fun t => [↑t.x.a, ↑t.x.b, ↑t.x.c, ↑t.x.d, ↑t.x.e, ↑t.y.a, ↑t.y.b, ↑t.y.c, ↑t.y.d, ↑t.y.e, ↑t.z.a, ↑t.z.b, ↑t.z.c, ↑t.z.d, ↑t.z.e, ↑t.t.a, ↑t.t.b, ↑t.t.c, ↑t.t.d, ↑t.t.e]) (PUnit) rRBase (Bool) rIsP (fun t => t) (Pt) rTimes (fun t => [↑t.x.a, ↑t.x.b, ↑t.x.c, ↑t.x.d, ↑t.x.e, ↑t.y.a, ↑t.y.b, ↑t.y.c, ↑t.y.d, ↑t.y.e, ↑t.z.a, ↑t.z.b, ↑t.z.c, ↑t.z.d, ↑t.z.e, ↑t.t.a, ↑t.t.b, ↑t.t.c, ↑t.t.d, ↑t.t.e]) (RP) rRTimes (fun t => nb t.x) (fun t => (nb t.x).length) (fun t => nb t.y) (fun t => (nb t.y).length) (fun t => nb t.z) (fun t => (nb t.z).length)
theorem gok_DLT : CfOk prog gI_DLT.c := ⟨gam_cons ok_awake07 <| gam_cons ok_RD <| gam_cons ok_Some7 <| gam_cons ok_CD <| gam_cons ok_Is <| gam_cons ok_Base <| gam_cons ok_RBase <| gam_cons ok_IsP <| gam_cons ok_Times <| gam_cons ok_RTimes <| gam_nil, fun _ _ h => by cases h⟩
def sLCT : Summ where
  T := Unit
  run := fun
    | [.c (.s (.pl (.agg (.ints .u8 a) 32)))] => cond (ok32 a) (some ()) none
    | _ => none
  enc := fun _ => .bool true
theorem isD : rIs [AV.agg (.ints .u64 [929955233495203, 466365720129213, 1662059464998953, 2033849074728123, 1442794654840575]) 5, eN dN] = some true := by
  have h := run_Is (y := dF) (x := dN) dF_ok (by decide)
  rw [eF_dF] at h
  rw [h, show Nat.beq (fv dF % P25) dN = true by decide +kernel]
theorem eRP_base : eRP baseR = AV.c (CV.mix [SV.dat (TRow.ints IntKind.i64 (nb 15112221349535400772501151409588531511454012693041857206046113283949847762202)) 32 1, SV.dat (TRow.ints IntKind.i64 (nb 46316835694926478169428394003475163141307993866256225615783033603165251855960)) 32 1, SV.dat (TRow.ints IntKind.i64 (nb 1)) 1 1]) := by kernel_rfl
theorem isP_true {p : Pt} {r : RP} {g : CP.G} (hp : PT p g) (hr : RPT r g) : rIsP [eP p, eRP r] = some true := by
  rw [run_IsP hp.ok hr.ok, is_true hp hr]
theorem ok_LCT : CallOk prog n_opalinelaw07_CurveTimes sLCT := by
  refine afunc_okE (g := gI_DLT) (fu := fun _ => 0) mixed gok_DLT h_opalinelaw07_CurveTimes (by kernel_rfl) ?_
  intro args t ht
  unfold sLCT at ht
  simp only at ht
  split at ht
  · rename_i a
    obtain ⟨ha, _⟩ := ctrueS ht
    refine (DLT_ev ..).trans ?_
    show _ = some (AV.bool true)
    have hx : vB a % LN < LN := Nat.mod_lt _ LN_pos
    have sa := run_Some7 ha
    generalize vB a % LN = x at *
    have tx := run_TimesN base_ok x
    have o := run_Base
    have p := PT_nB hx
    have rt := run_RTimes (p := baseR) (n := x) (d := dN) RPT_base.ok (Nat.lt_trans hx (by decide)) (by decide)
    have r := RPT_times RPT_base x
    have hB := isP_true PT_base RPT_base
    rw [eRP_base] at hB rt
    generalize baseP = Bp at *
    refine bstep (show rTrue [] = some () from rfl) ?_
    refine bstep run_RD ?_
    refine bstep sa ?_
    refine bstep (show rCD [] = some () from rfl) ?_
    refine bstep isD ?_
    refine cstep rfl ?_
    refine bstep o ?_
    refine bstep run_RBase ?_
    refine bstep hB ?_
    refine cstep rfl ?_
    refine bstep o ?_
    refine bstep tx ?_
    refine bstep run_RBase ?_
    refine bstep rt ?_
    refine bstep (isP_true p r) ?_
    rfl
  · cases ht
end Go.Eng
