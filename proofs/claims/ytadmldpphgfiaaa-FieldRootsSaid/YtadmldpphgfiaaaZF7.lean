/- Texts of this claim, one behind the other: PFe12. -/
import Derived.Test.YtadmldpphgfiaaaZF5
/- field: FieldLaws: the law function answers true. -/
namespace Go.Eng
open Go Go.Proofs
set_option linter.unusedVariables false
set_option linter.unusedSimpArgs false
set_option maxRecDepth 4000
theorem fl_add (x y : Fe) : samF (addF x y) (addF y x) = true := sam_iff.2 ((cg_fadd x y).trans (by rw [Int.add_comm]; exact (cg_fadd y x).symm))
theorem fl_mul (x y : Fe) : samF (mulF x y) (mulF y x) = true := sam_iff.2 ((cg_fmul x y).trans (by rw [Int.mul_comm]; exact (cg_fmul y x).symm))
theorem fl_add3 (x y z : Fe) : samF (addF (addF x y) z) (addF x (addF y z)) = true := by
  refine sam_iff.2 (((cg_fadd _ z).trans ((cg_fadd x y).add (cg.refl _))).trans ?_)
  rw [Int.add_assoc]
  exact ((cg_fadd x _).trans ((cg.refl _).add (cg_fadd y z))).symm
theorem fl_mul3 (x y z : Fe) : samF (mulF (mulF x y) z) (mulF x (mulF y z)) = true := by
  refine sam_iff.2 (((cg_fmul _ z).trans ((cg_fmul x y).mul (cg.refl _))).trans ?_)
  rw [Int.mul_assoc]
  exact ((cg_fmul x _).trans ((cg.refl _).mul (cg_fmul y z))).symm
theorem fl_dist (x y z : Fe) : samF (mulF x (addF y z)) (addF (mulF x y) (mulF x z)) = true := by
  refine sam_iff.2 (((cg_fmul x _).trans ((cg.refl _).mul (cg_fadd y z))).trans ?_)
  rw [Int.mul_add]
  exact ((cg_fadd _ _).trans ((cg_fmul x y).add (cg_fmul x z))).symm
theorem fl_sub (x : Fe) {y : Fe} (hy : fOk y) : samF (subF (addF x y) y) x = true := by
  refine sam_iff.2 ((cg_fsub hy).trans (((cg_fadd x y).sub (cg.refl _)).trans ?_))
  rw [Int.add_sub_cancel]
  exact cg.refl _
theorem fl_neg {x : Fe} (hx : fOk x) : zerF (addF (subF f0 x) x) = true := by
  have h : cg (fv (addF (subF f0 x) x) : Int) 0 := by
    refine (cg_fadd _ x).trans (((cg_neg hx).add (cg.refl _)).trans ?_)
    rw [Int.add_left_neg]; exact cg.refl _
  rw [zerF, cg_zero.1 h]; rfl
theorem fl_one (x : Fe) : samF (mulF x (fe 1)) x = true := by
  refine sam_iff.2 ((cg_fmul x _).trans ?_)
  rw [fv_one, show ((1 : Nat) : Int) = 1 from rfl, Int.mul_one]
  exact cg.refl _
theorem fl_inv {x : Fe} (h : zerF x = false) : samF (mulF x (invF x)) (fe 1) = true := by
  have hz : fv x % P25 ≠ 0 := fun e => by rw [zerF, e] at h; cases h
  have := inv_mul x hz
  rw [samF, invF, this, fv_one]; decide +kernel
theorem fl_i : samF (mulF iF iF) (subF f0 (fe 1)) = true := by decide +kernel
theorem zerF_cg {y : Fe} (h : zerF y = false) : ¬ cg (fv y : Int) 0 := fun e => by
  rw [zerF, cg_zero.1 e] at h; cases h
theorem inv_ok {x : Fe} (hx : fOk x) : fOk (invF x) := pow_ok hx (fe_ok 1)
theorem ratR_ok {u v : Fe} (hu : fOk u) (hv : fOk v) : fOk (ratR u v) :=
  have h3 := mul_ok (mul_ok hv hv) hv
  mul_ok (mul_ok hu h3) (pow_ok (mul_ok hu (mul_ok (mul_ok h3 h3) hv)) (fe_ok 1))
theorem rat_ok {u v : Fe} (hu : fOk u) (hv : fOk v) : fOk (ratF u v).1 := by
  unfold ratF
  refine abs_okF ?_
  cases (samF (mulF v (mulF (ratR u v) (ratR u v))) (subF f0 u) || samF (mulF v (mulF (ratR u v) (ratR u v))) (mulF (subF f0 u) iF))
  · exact ratR_ok hu hv
  · exact mul_ok (ratR_ok hu hv) iF_ok
noncomputable abbrev gI_FLW : Cg := g_FLW (PUnit) rTrue (Fe) rLoose (fun t => ↑t.a) (fun t => ↑t.b) (fun t => ↑t.c) (fun t => ↑t.d) (fun t => ↑t.e) (Fe) rFOf (fun t => ↑t.a) (fun t => ↑t.b) (fun t => ↑t.c) (fun t => ↑t.d) (fun t => ↑t.e) (Fe) rFSq (fun t => ↑t.a) (fun t => ↑t.b) (fun t => ↑t.c) (fun t => ↑t.d) (fun t => ↑t.e) (Fe × Bool) rFRat (fun t => ↑t.fst.a) (fun t => ↑t.fst.b) (fun t => ↑t.fst.c) (fun t => ↑t.fst.d) (fun t => ↑t.fst.e) (fun t => t.snd) (Fe) rFAdd (fun t => ↑t.a) (fun t => ↑t.b) (fun t => ↑t.c) (fun t => ↑t.d) (fun t => ↑t.e) (Bool) rSam (fun t => t) (Fe) rFMul (fun t => ↑t.a) (fun t => ↑t.b) (fun t => ↑t.c) (fun t => ↑t.d) (fun t => ↑t.e) (Fe) rFSub (fun t => ↑t.a) (fun t => ↑t.b) (fun t => ↑t.c) (fun t => ↑t.d) (fun t => ↑t.e) (Fe) rFNeg (fun t => ↑t.a) (fun t => ↑t.b) (fun t => ↑t.c) (fun t => ↑t.d) (fun t => ↑t.e) (Bool) rZer (fun t => t) (Fe) rInv (fun t => ↑t.a) (fun t => ↑t.b) (fun t => ↑t.c) (fun t => ↑t.d) (fun t => ↑t.e) (Fe) rFAbs (fun t => ↑t.a) (fun t => ↑t.b) (fun t => ↑t.c) (fun t => ↑t.d) (fun t => ↑t.e) (Unit) rFI
theorem gok_FLW : CfOk prog gI_FLW.c := ⟨gam_cons ok_awake05 <| gam_cons ok_Loose <| gam_cons ok_FOf <| gam_cons ok_FSq <| gam_cons ok_FRat <| gam_cons ok_FAdd <| gam_cons ok_Sam <| gam_cons ok_FMul <| gam_cons ok_FSub <| gam_cons ok_FNeg <| gam_cons ok_Zer <| gam_cons ok_Inv <| gam_cons ok_FAbs <| gam_cons ok_FI <| gam_nil, fun _ _ h => by cases h⟩
def sLLaws : Summ where
  T := Unit
  run := fun
    | [.c (.s (.pl (.agg (.ints .u8 a) 32))), .c (.s (.pl (.agg (.ints .u8 b) 32))), .c (.s (.pl (.agg (.ints .u8 c) 32)))] => cond (ok32 a && ok32 b && ok32 c) (some ()) none
    | _ => none
  enc := fun _ => .bool true
theorem ok_LLaws : CallOk prog n_opalinelaw05_FieldLaws sLLaws := by
  refine afunc_okE (g := gI_FLW) (fu := fun _ => 40) mixed gok_FLW h_opalinelaw05_FieldLaws (by kernel_rfl) ?_
  intro args t ht
  unfold sLLaws at ht
  simp only at ht
  split at ht
  · rename_i a b c
    obtain ⟨hc, _⟩ := ctrueS ht
    rw [Bool.and_eq_true, Bool.and_eq_true] at hc
    obtain ⟨⟨ha, hb⟩, hc⟩ := hc
    refine (FLW_ev ..).trans ?_
    show _ = some (AV.bool true)
    have la := run_Loose ha
    have lb := run_Loose hb
    have lc := run_Loose hc
    have hx : fOk (looF a) := loo_ok a
    have hy : fOk (looF b) := loo_ok b
    have hz : fOk (looF c) := loo_ok c
    generalize looF a = x at *
    generalize looF b = y at *
    generalize looF c = z at *
    have o1 := run_FOf (n := 1) (by decide)
    rw [show ((1 : Nat) : Int) = 1 from rfl] at o1
    have q1 := run_FSq hx
    have q2 := run_FSq hy
    have rt := run_FRat (mul_ok hx hx) (mul_ok hy hy)
    have a1 := run_FAdd hx hy
    have a2 := run_FAdd hy hx
    have s1 := run_Sam (add_ok hx hy) (add_ok hy hx)
    rw [fl_add] at s1
    have m1 := run_FMul hx hy
    have m2 := run_FMul hy hx
    have s2 := run_Sam (mul_ok hx hy) (mul_ok hy hx)
    rw [fl_mul] at s2
    have a3 := run_FAdd (add_ok hx hy) hz
    have a4 := run_FAdd hy hz
    have a5 := run_FAdd hx (add_ok hy hz)
    have s3 := run_Sam (add_ok (add_ok hx hy) hz) (add_ok hx (add_ok hy hz))
    rw [fl_add3] at s3
    have m3 := run_FMul (mul_ok hx hy) hz
    have m4 := run_FMul hy hz
    have m5 := run_FMul hx (mul_ok hy hz)
    have s4 := run_Sam (mul_ok (mul_ok hx hy) hz) (mul_ok hx (mul_ok hy hz))
    rw [fl_mul3] at s4
    have m6 := run_FMul hx (add_ok hy hz)
    have m7 := run_FMul hx hz
    have a6 := run_FAdd (mul_ok hx hy) (mul_ok hx hz)
    have s5 := run_Sam (mul_ok hx (add_ok hy hz)) (add_ok (mul_ok hx hy) (mul_ok hx hz))
    rw [fl_dist] at s5
    have u1 := run_FSub (add_ok hx hy) hy
    have s6 := run_Sam (sub_ok (y := y) (add_ok hx hy)) hx
    rw [fl_sub x hy] at s6
    have n1 := run_FNeg hx
    have a7 := run_FAdd (sub_ok (y := x) f0_ok) hx
    have z1 := run_Zer (add_ok (sub_ok (y := x) f0_ok) hx)
    rw [fl_neg hx] at z1
    have m8 := run_FMul hx (fe_ok 1)
    have s7 := run_Sam (mul_ok hx (fe_ok 1)) hx
    rw [fl_one] at s7
    have zx := run_Zer hx
    have zy := run_Zer hy
    have n2 := run_FNeg (fe_ok 1)
    have q3 := run_FSq iF_ok
    rw [eF_iF] at q3
    have s10 := run_Sam (mul_ok iF_ok iF_ok) (sub_ok (y := fe 1) f0_ok)
    rw [fl_i] at s10
    have ab := run_FAbs hx
    have fi : rFI [] = some () := rfl
    have tr : rTrue [] = some () := rfl
    -- the tail: where y is nought, and where not
    have tail1 : zerF y = false → (ratF (mulF x x) (mulF y y)).2 = true ∧ rFMul [eF (ratF (mulF x x) (mulF y y)).1, eF y] = some (mulF (ratF (mulF x x) (mulF y y)).1 y) ∧
        rFAbs [eF (mulF (ratF (mulF x x) (mulF y y)).1 y)] = some (absF (mulF (ratF (mulF x x) (mulF y y)).1 y)) ∧ rSam [eF (absF (mulF (ratF (mulF x x) (mulF y y)).1 y)), eF (absF x)] = some true := by
      intro h
      obtain ⟨g1, g2⟩ := rat_sq hx hy (zerF_cg h)
      have hr := rat_ok (mul_ok hx hx) (mul_ok hy hy)
      refine ⟨g1, run_FMul hr hy, run_FAbs (mul_ok hr hy), ?_⟩
      rw [run_Sam (abs_okF (mul_ok hr hy)) (abs_okF hx), g2]
    have tail2 : zerF x = false → rInv [eF x] = some (invF x) ∧ rFMul [eF x, eF (invF x)] = some (mulF x (invF x)) ∧ rSam [eF (mulF x (invF x)), eF (fe 1)] = some true := by
      intro h
      refine ⟨run_Inv hx, run_FMul hx (inv_ok hx), ?_⟩
      rw [run_Sam (mul_ok hx (inv_ok hx)) (fe_ok 1), fl_inv h]
    simp only [eF, eB32] at *
    clear ht ha hb hc hx hy hz
    rw [tr, Option.bind_some, la, Option.bind_some, lb, Option.bind_some, lc, Option.bind_some, o1, Option.bind_some, q1, Option.bind_some, q2, Option.bind_some, rt, Option.bind_some]
    rw [a1, Option.bind_some, a2, Option.bind_some, s1, Option.bind_some, cond_true]
    rw [m1, Option.bind_some, m2, Option.bind_some, s2, Option.bind_some, cond_true]
    rw [Option.bind_some, a3, Option.bind_some, a4, Option.bind_some, a5, Option.bind_some, s3, Option.bind_some, cond_true]
    rw [Option.bind_some, m3, Option.bind_some, m4, Option.bind_some, m5, Option.bind_some, s4, Option.bind_some, cond_true]
    rw [Option.bind_some, m6, Option.bind_some, Option.bind_some, m7, Option.bind_some, a6, Option.bind_some, s5, Option.bind_some, cond_true]
    rw [Option.bind_some, u1, Option.bind_some, s6, Option.bind_some, cond_true, n1, Option.bind_some, a7, Option.bind_some, z1, Option.bind_some, cond_true, m8, Option.bind_some, s7, Option.bind_some, cond_true, zx, Option.bind_some]
    cases h1 : zerF x
    · obtain ⟨i1, i2, i3⟩ := tail2 h1
      rw [cond_false, i1, Option.bind_some, i2, Option.bind_some, i3, Option.bind_some, cond_true, zy, Option.bind_some]
      cases h2 : zerF y
      · obtain ⟨j1, j2, j3, j4⟩ := tail1 h2
        rw [cond_false, j1, cond_true, j2, Option.bind_some, j3, Option.bind_some, ab, Option.bind_some, j4, Option.bind_some, cond_true, fi, Option.bind_some, q3, Option.bind_some, n2, Option.bind_some, s10, Option.bind_some]
      · rw [cond_true, fi, Option.bind_some, q3, Option.bind_some, n2, Option.bind_some, s10, Option.bind_some]
    · rw [cond_true, zy, Option.bind_some]
      cases h2 : zerF y
      · obtain ⟨j1, j2, j3, j4⟩ := tail1 h2
        rw [cond_false, j1, cond_true, j2, Option.bind_some, j3, Option.bind_some, ab, Option.bind_some, j4, Option.bind_some, cond_true, fi, Option.bind_some, q3, Option.bind_some, n2, Option.bind_some, s10, Option.bind_some]
      · rw [cond_true, fi, Option.bind_some, q3, Option.bind_some, n2, Option.bind_some, s10, Option.bind_some]
  · cases ht
end Go.Eng
