/- The frame of a law over Wides. -/
import Derived.Test.YtdhcaghdhaeebaaRows
import Derived.Test.YtdhcaghdhaeebaaZE3
import Derived.Test.YtdhcaghdhaeebaaZL2
import Derived.WalkKit
import Derived.ProofKit
import Derived.OpenShut
namespace Go.Proofs.Ytdhcaghdhaeebaa.limbLaws
open Go.ChangeShapes Go.WideShapes Go.ChangeAt Go.RowKit Go.Eng
set_option linter.unusedVariables false
theorem own : ownKnob Try.prog.godebug = none := by kernel_rfl
theorem laidOut : laidOutB Try.prog = true := by kernel_rfl
theorem uW : Try.prog.underlying 50 = some (.array 8 48) := by kernel_rfl
theorem uE : Try.prog.underlying 48 = some (.int .u64) := by kernel_rfl
theorem uB : Try.prog.underlying 4 = some .bool := by kernel_rfl
theorem cE : Try.prog.cellsOf 48 = 1 := by kernel_rfl
theorem cW : Try.prog.cellsOf 50 = 8 := by kernel_rfl
theorem rW : Try.prog.readableRec 50 = true := by kernel_rfl
theorem sW : 50 < Try.prog.types.size := of_decide_eq_true (by kernel_rfl)
theorem ok8_of {a : List Int} (h : a.length = 8) (hw : ∀ x ∈ a, (Lit.int .u64 x).wf = true) : ok8 a = true := by
  have : ∀ a : List Int, (∀ x ∈ a, (Lit.int .u64 x).wf = true) → okL a = true := by
    intro a
    induction a with
    | nil => intro _; rfl
    | cons x r ih =>
      intro hw
      have h1 := bounds_u64 (hw x (by simp))
      simp only [okL, Bool.and_eq_true, decide_eq_true_eq]
      exact ⟨by omega, ih fun y hy => hw y (by simp [hy])⟩
  simp only [ok8, Bool.and_eq_true]
  exact ⟨by rw [h]; rfl, this a hw⟩
theorem W8_ok (a : List Int) (h : a.length = 8) (W : World) (ρ : Plc) : AVR W ρ (W8 a) (.agg (a.map (Value.int .u64)).toArray) :=
  ⟨rfl, fun r n e => by cases e; exact h⟩
abbrev zeroV : Value := .agg #[.int .u64 0, .int .u64 0, .int .u64 0, .int .u64 0, .int .u64 0, .int .u64 0, .int .u64 0, .int .u64 0]
set_option maxRecDepth 100000 in
theorem lifted {A : Summ} (hA : CallOk Try.prog 9 A) (hrun : ∀ a b, ok8 a = true → ok8 b = true → ∃ t, A.run [W8 a, W8 b] = some t ∧ A.enc t = .bool true) {c : Code} (hb : Try.f9.body = some c) (hname : (Try.f9.name == "runtime.NumGoroutine") = false)
    (os : Os) (started : os.Started) (H : Type) (enc : TypeId × Value → H) :
    ReturnsInHanded {} Try.checked os 9 .any (Rows.limbLawsSpec.pre6 enc Try.prog Try.f9 Rows.limbLawsRow.domain false) (Rows.limbLawsSpec.post enc Try.prog Try.f9 false true false false) := by
  refine returnsInHanded_of_change (C := Try.checked) own started (by kernel_rfl) Try.func9
    (ChangeSpec.witness6 (enc := enc) (C := Try.checked) false ⟨#[], #[zeroV, zeroV], []⟩ 8 (by kernel_rfl) (by kernel_rfl) (by kernel_rfl) (by kernel_rfl)) ?_
  intro W base args ds gs before hval0 hW hcnd _
  have hval : ∀ (j : Nat) t v, Try.f9.params[j]? = some t → args[j]? = some v → Value.okWide Try.prog W .any base t v := hval0
  have hW' := hW
  obtain ⟨p, q, hA0, hV, rfl, hfz, hnd⟩ := hW
  have hT : DataW.TrodAll enc Try.prog W 0 (fun _ => true) true Try.f9.params.toList args.toList ds p := hA0
  rw [Try.params9] at hT hval
  obtain ⟨v0, v1, d0, d1, p0, p1, hargs, rfl, rfl, h0, h1⟩ := trodAll_two hT
  obtain rfl : args = #[v0, v1] := by cases args; simp_all
  obtain ⟨rfl, rfl⟩ := trodVars_none hV
  obtain ⟨a, rfl, la, wa, rfl⟩ := open_ints_array uW uE cE cW (hval 0 50 v0 rfl rfl) h0
  obtain ⟨b, rfl, lb, wb, rfl⟩ := open_ints_array uW uE cE cW (hval 1 50 v1 rfl rfl) h1
  clear hA0 hval0
  simp only [List.append_nil] at hW'
  obtain ⟨t, ht, het⟩ := hrun a b (ok8_of la wa) (ok8_of lb wb)
  refine (law_calls hA ht het (vs := [_, _]) (W := W) ⟨W8_ok a la W _, W8_ok b lb W _, trivial⟩ Try.func9 hname hb).mono fun e W' ⟨he, hbel⟩ => ?_
  subst he
  refine ⟨_, rfl, [d0, d1], [], [], [], [], [], hW', ?_, ?_, rfl, hbel.frame _, fun h => by cases h⟩
  · exact trodAll_cons_mk (shut_bool uB _) trodAll_mk0
  · exact trodAll_mk2 (Below.trod laidOut rW sW h0 hbel (fun x hx => by cases hx)) (Below.trod laidOut rW sW h1 hbel (fun x hx => by cases hx))
theorem over {A : Summ} (hA : CallOk Try.prog 9 A) (hrun : ∀ a b, ok8 a = true → ok8 b = true → ∃ t, A.run [W8 a, W8 b] = some t ∧ A.enc t = .bool true) {c : Code} (hb : Try.f9.body = some c) (hname : (Try.f9.name == "runtime.NumGoroutine") = false) : Rows.LimbLawsSaid :=
  OpenClaim.holds_of_wide 9 Try.f9 rfl rfl rfl rfl rfl rfl rfl ⟨rfl, rfl, rfl, rfl, rfl⟩ rfl rfl rfl rfl rfl (by kernel_rfl) Try.func9 (by kernel_rfl)
    (of_decide_eq_true (by kernel_rfl)) (by unfold Func.isWrapper; first | (rw [if_pos (by decide +kernel)]; kernel_rfl) | (rw [if_neg (by decide +kernel)]; exact ⟨rfl, rfl⟩))
    (fun os started H enc _ => lifted hA hrun hb hname os started H enc)
end Go.Proofs.Ytdhcaghdhaeebaa.limbLaws
