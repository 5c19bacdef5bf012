/- Texts of this claim, one behind the other: Fp7. -/
import Derived.Test.YtkmlepkmhpigeaaGreatZF3
/- The root of any quotient, modulo 2^255 - 19: plain laws over the integers. -/
namespace Go.Eng
set_option linter.unusedVariables false
abbrev iZ:Int:=19681161376707505956807079304988542015446066515923890162744021073123829784752
theorem iZ_sq:cg (iZ * iZ) (-1):=⟨6690407189080634018507799843845558368979872843924222843531373839242004886245,by decide +kernel⟩
theorem neg_odd (k:Nat):(-1:Int) ^ (2 * k + 1) = -1:=by
  rw [Int.pow_succ,Int.pow_mul]
  have:((-1:Int) ^ 2) = 1:=by decide
  rw [this,Int.one_pow]; decide
theorem pow7 (V:Int) (e:Nat):(V * V * V * (V * V * V) * V) ^ e = V ^ (7 * e):=by
  rw [Int.pow_mul]; congr 1; grind
theorem rhs_eq (U V:Int) (e:Nat):U * (V * V * V) * (U * (V * V * V * (V * V * V) * V)) ^ e = U ^ (e + 1) * V ^ (7 * e + 3):=by
  rw [Int.mul_pow,pow7,Int.pow_succ,Int.pow_add]
  generalize U ^ e = A
  generalize V ^ (7 * e) = B
  grind
theorem root_same {U V R w z:Int} (e:Nat) (he:8 * e + 4 = P25 - 1) (hV:¬ cg V 0) (hR:cg R (U * (V * V * V) * (U * (V * V * V * (V * V * V) * V)) ^ e))
    (hw:cg w (U * V ^ (8 * e + 3))) (hz:cg z (w ^ (e + 1))):cg R z:=by
  rw [rhs_eq] at hR
  have h1:=hz.trans (hw.pow (e + 1))
  rw [Int.mul_pow,← Int.pow_mul,show (8 * e + 3) * (e + 1) = (8 * e + 4) * e + (7 * e + 3) by grind,Int.pow_add (m:=(8 * e + 4) * e),Int.pow_mul (n:=8 * e + 4)] at h1
  have h2:=(cg_fermat hV (8 * e + 4) he).pow e
  rw [Int.one_pow] at h2
  have h3:=h1.trans ((cg.refl _).mul (h2.mul (cg.refl (V ^ (7 * e + 3)))))
  rw [Int.one_mul] at h3
  exact hR.trans h3.symm
theorem root_four {w z:Int} (e:Nat) (he:8 * e + 4 = P25 - 1) (hw:¬ cg w 0) (hz:cg z (w ^ (e + 1))) :
    cg (z * z) w ∨ cg (z * z) (-w) ∨ cg (z * z) (iZ * w) ∨ cg (z * z) (-(iZ * w)):=by
  have h1:=hz.mul hz
  rw [← Int.pow_add,show e + 1 + (e + 1) = 2 * e + 1 + 1 by omega,Int.pow_succ] at h1
  have hh:=cg_half hw (4 * e + 2) (by omega)
  rw [show 4 * e + 2 = (2 * e + 1) + (2 * e + 1) by omega,Int.pow_add] at hh
  generalize w ^ (2 * e + 1) = X at *
  have fin:∀ c:Int,cg X c→cg (z * z) (c * w):=fun c hc => h1.trans (hc.mul (cg.refl w))
  rcases hh with h | h
  · have h':cg (X * X) (1 * 1):=h
    rcases cg_sq h' with h | h
    · have:=fin _ h
      rw [Int.one_mul] at this
      exact .inl this
    · have:=fin _ h
      rw [Int.neg_mul,Int.one_mul] at this
      exact .inr (.inl this)
  · rcases cg_sq (h.trans iZ_sq.symm) with h | h
    · exact .inr (.inr (.inl (fin _ h)))
    · have:=fin _ h
      rw [Int.neg_mul] at this
      exact .inr (.inr (.inr this))
theorem turn_pow {e k:Nat} (h:e + 1 = 2 * (2 * k + 1)):cg (iZ ^ (e + 1)) (-1):=by
  rw [h,Int.pow_mul]
  have h2:cg (iZ ^ 2) (-1):=by
    rw [show (2:Nat) = 1 + 1 from rfl,Int.pow_succ,Int.pow_succ,Int.pow_zero,Int.one_mul]
    exact iZ_sq
  have:=h2.pow (2 * k + 1)
  rwa [neg_odd] at this
theorem root_turn {w z z2 w2:Int} {e k:Nat} (h:e + 1 = 2 * (2 * k + 1)) (hz:cg z (w ^ (e + 1))) (hw2:cg w2 (iZ * w)) (hz2:cg z2 (w2 ^ (e + 1))):cg z2 (-z):=by
  have h1:=hz2.trans (hw2.pow (e + 1))
  rw [Int.mul_pow] at h1
  have h2:=h1.trans ((turn_pow h).mul hz.symm)
  rwa [Int.neg_mul,Int.one_mul] at h2
theorem no_two {U:Int} (hU:¬ cg U 0) {c d:Int} (h:cg (c * U) (d * U)):cg (c - d) 0:=by
  have h1:=h.sub (cg.refl (d * U))
  rw [← Int.sub_mul,← Int.sub_mul,Int.sub_self,Int.zero_mul] at h1
  rcases cg_nozero h1 with h | h
  · exact h
  · exact absurd h hU
theorem sq_iff {z w:Nat} (hw:w < P25) {Z:Int} (hz:cg (z:Int) Z):z * z % P25 = w ↔ cg (Z * Z) (w:Int):=by
  have h:=hz.mul hz
  rw [← Int.natCast_mul] at h
  constructor
  · intro e
    have:cg ((z * z:Nat):Int) (w:Int):=cg_nat.2 (by rw [e,Nat.mod_eq_of_lt hw])
    exact h.symm.trans this
  · intro e
    have:=cg_nat.1 (h.trans e)
    rwa [Nat.mod_eq_of_lt hw] at this
theorem sq_turn (Z:Int):cg (Z * iZ * (Z * iZ)) (-(Z * Z)):=by
  have e:Z * iZ * (Z * iZ) = Z * Z * (iZ * iZ):=by
    generalize iZ = i
    grind
  rw [e]
  have:=(cg.refl (Z * Z)).mul iZ_sq
  rwa [Int.mul_neg,Int.mul_one] at this
end Go.Eng
