/- The frame of WireCuts, where what comes in is of bulk at most 1048576. -/
import Derived.Test.YtdhcaghdhaeebaaRows
import Derived.Test.YtdhcaghdhaeebaaZE4
import Derived.JoinedCond
import Derived.WalkKit
import Derived.ProofKit
import Derived.OpenShut
namespace Go.Proofs.Ytdhcaghdhaeebaa.wireCuts
open Go.ChangeShapes Go.WideShapes Go.ChangeAt Go.RowKit Go.Eng
set_option linter.unusedVariables false
set_option maxRecDepth 100000
theorem own : ownKnob Try.prog.godebug = none := by kernel_rfl
theorem laidOut : laidOutB Try.prog = true := by kernel_rfl
theorem uB : Try.prog.underlying 4 = some .bool := by kernel_rfl
theorem uS : Try.prog.underlying 9 = some .string := by kernel_rfl
theorem uI : Try.prog.underlying 3 = some (.int .i64) := by kernel_rfl
theorem uIs : Try.prog.underlying 34 = some (.slice 3) := by kernel_rfl
theorem uSs : Try.prog.underlying 27 = some (.slice 9) := by kernel_rfl
theorem cI : Try.prog.cellsOf 3 = 1 := by kernel_rfl
theorem cS : Try.prog.cellsOf 9 = 1 := by kernel_rfl
theorem pars : Try.f4.params.toList = [9, 34, 27] := by kernel_rfl
theorem reads : ∀ t ∈ ([9, 34, 27] : List TypeId), Try.prog.readableRec t = true ∧ t < Try.prog.types.size := by
  have : ([9, 34, 27] : List TypeId).all (fun t => Try.prog.readableRec t && decide (t < Try.prog.types.size)) = true := by kernel_rfl
  intro t ht
  have := List.all_eq_true.1 this t ht
  simpa using this
section
variable {H : Type} {enc : TypeId × Value → H}
theorem bulk_lits (k : IntKind) : ∀ l : List Int, Rows.uptoBulkAll (lits (H := H) k l) = l.length := by
  intro l
  induction l with
  | nil => rfl
  | cons x l ih =>
    simp only [lits, List.map_cons, Rows.uptoBulkAll, Rows.uptoBulk, List.length_cons] at ih ⊢
    rw [ih]; omega
theorem bulk_strs : ∀ l : List ByteArray, Rows.uptoBulkAll (strs (H := H) l) = l.length + (l.map (·.data.toList)).flatten.length := by
  intro l
  induction l with
  | nil => rfl
  | cons x l ih =>
    simp only [strs, List.map_cons, Rows.uptoBulkAll, Rows.uptoBulk, List.length_cons, List.flatten_cons, List.length_append] at ih ⊢
    rw [ih]; omega
theorem open3 {W : World} {base b0 : Nat} {sp : Nat → Bool} {hd : Bool} {r : Reach} {vs : List Value} {ds : List (DataW H)} {p : List MemPlace} (hv : ∀ (j : Nat) t v, ([9, 34, 27] : List TypeId)[j]? = some t → vs[j]? = some v → Value.okWide Try.prog W r b0 t v)
    (hb : Rows.uptoBulkAll ds ≤ 1048576) (h : DataW.TrodAll enc Try.prog W base sp hd [9, 34, 27] vs ds p) :
    ∃ (s : Str) (l : List Int) (ss : List Str), AVRs W (P0 fun _ => False) [.str s, .c (.s (.dat (.ints .i64 l) l.length 1)), .c (.s (.dat (.strs ss) ss.length 1))] vs ∧ (∀ x ∈ l, (Lit.int .i64 x).wf = true) ∧ l.length ≤ 1048576 ∧
      ss.length ≤ 1048576 ∧ ss.flatten.length ≤ 1048576 ∧ ∀ x ∈ p, x.block < W.heap.size := by
  match vs, ds, h with
  | v1 :: vs, d1 :: ds, ⟨p1, q1, h1, h, e1⟩ =>
  match vs, ds, h with
  | v2 :: vs, d2 :: ds, ⟨p2, q2, h2, h, e2⟩ =>
  match vs, ds, h with
  | v3 :: vs, d3 :: ds, ⟨p3, q3, h3, h4, e3⟩ =>
  match vs, ds, h4 with
  | [], [], h4 =>
    have h4 : q3 = [] := h4
    have o1 := hv 0 9 v1 rfl rfl
    have o2 := hv 1 34 v2 rfl rfl
    have o3 := hv 2 27 v3 rfl rfl
    clear hv
    obtain ⟨x1, ⟨s, rfl, _⟩, g2, rfl⟩ := open_one (k := .str) uS o1 h1
    obtain ⟨l, l1, l2, l3, l4⟩ := open_sints uIs uI cI o2 h2
    obtain ⟨ss, s1, _, s3, s4⟩ := open_sstrs uSs uS cS o3 h3
    simp only [Rows.uptoBulkAll] at hb
    refine ⟨s, l, ss, ⟨g2, l1, s1, trivial⟩, l2, ?_, ?_, ?_, ?_⟩
    · rcases l4 with rfl | ⟨y, rfl⟩
      · simp
      · simp only [Rows.uptoBulk, bulk_lits] at hb; omega
    · rcases s4 with rfl | ⟨z, y, rfl, rfl⟩
      · simp
      · simp only [Rows.uptoBulk, bulk_strs] at hb; simp; omega
    · rcases s4 with rfl | ⟨z, y, rfl, rfl⟩
      · simp
      · simp only [Rows.uptoBulk, bulk_strs] at hb; omega
    · subst e1 e2 e3 h4
      intro x hx
      simp only [List.nil_append, List.append_nil, List.mem_append] at hx
      rcases hx with hx | hx
      · exact l3 x hx
      · exact s3 x hx
end
set_option maxRecDepth 100000 in
theorem lifted {A : Summ} (hA : CallOk Try.prog 4 A) (hrun : ∀ (s : Str) (l : List Int) (ss : List Str), (∀ x ∈ l, (Lit.int .i64 x).wf = true) → l.length ≤ 1048576 → ss.length ≤ 1048576 → ss.flatten.length ≤ 1048576 →
      ∃ t, A.run [.str s, .c (.s (.dat (.ints .i64 l) l.length 1)), .c (.s (.dat (.strs ss) ss.length 1))] = some t ∧ A.enc t = .bool true) {c : Code} (hb : Try.f4.body = some c) (hname : (Try.f4.name == "runtime.NumGoroutine") = false)
    (os : Os) (started : os.Started) (H : Type) (enc : TypeId × Value → H) (F : Stop.Interp) :
    ReturnsInHanded {} Try.checked os 4 .any ((Rows.OpenSpec.upto Rows.wireCutsSpec).pre6 enc Try.prog Try.f4 [] false) (((Rows.OpenSpec.upto Rows.wireCutsSpec).at F).post enc Try.prog Try.f4 false true false false) := by
  refine returnsInHanded_of_cond (C := Try.checked) (s := Rows.OpenSpec.upto Rows.wireCutsSpec) (k := Rows.uptoSmall) rfl own started (by kernel_rfl) Try.func4
    (OpenSpec.witness (enc := enc) (C := Try.checked) (s := Rows.OpenSpec.upto Rows.wireCutsSpec) (k := Rows.uptoSmall) rfl false ⟨#[], #[.string ⟨#[]⟩, .slice none 0 0, .slice none 0 0], []⟩ 8 (by kernel_rfl) (by kernel_rfl) (by kernel_rfl)
      (x := ([.lit (.string []), .nil, .nil], [], [])) (by kernel_rfl) rfl (by kernel_rfl)) ?_
  intro W base args ds gs before hval0 hW hcnd hk _
  have hval : ∀ (j : Nat) t v, Try.f4.params.toList[j]? = some t → args.toList[j]? = some v → Value.okWide Try.prog W .any base t v := fun j t v h1 h2 => hval0 j t v (by simpa using h1) (by simpa using h2)
  have hW' := hW
  obtain ⟨p, q, hA0, hV, rfl, hfz, hnd⟩ := hW
  have hT : DataW.TrodAll enc Try.prog W 0 (fun _ => true) true Try.f4.params.toList args.toList ds p := hA0
  rw [pars] at hT hval
  obtain ⟨rfl, rfl⟩ := trodVars_none hV
  have hk' : Rows.uptoBulkAll ds ≤ 1048576 := by
    have := of_decide_eq_true hk
    rwa [List.append_nil] at this
  obtain ⟨s, l, ss, hav, w1, w2, w3, w4, hpl⟩ := open3 hval hk' hT
  clear hA0 hval0
  obtain ⟨t, ht, het⟩ := hrun s l ss w1 w2 w3 w4
  have hcalls := (law_calls hA ht het (vs := args.toList) (W := W) hav Try.func4 hname hb)
  rw [show args.toList.toArray = args from rfl] at hcalls
  refine hcalls.mono fun e W' ⟨he, hbel⟩ => ?_
  subst he
  have hback := trodAll_below2 laidOut hbel reads hpl hT
  obtain ⟨d0, d1, d2, rfl⟩ := len3 (trodAll_len hT)
  refine ⟨_, rfl, [d0, d1, d2], [], _, [], p, [], hW', ?_, ?_, rfl, hbel.frame _, fun h => by cases h⟩
  · exact trodAll_cons_mk (shut_bool uB _) trodAll_mk0
  · exact hback
theorem over {A : Summ} (hA : CallOk Try.prog 4 A) (hrun : ∀ (s : Str) (l : List Int) (ss : List Str), (∀ x ∈ l, (Lit.int .i64 x).wf = true) → l.length ≤ 1048576 → ss.length ≤ 1048576 → ss.flatten.length ≤ 1048576 →
      ∃ t, A.run [.str s, .c (.s (.dat (.ints .i64 l) l.length 1)), .c (.s (.dat (.strs ss) ss.length 1))] = some t ∧ A.enc t = .bool true) {c : Code} (hb : Try.f4.body = some c) (hname : (Try.f4.name == "runtime.NumGoroutine") = false) : Rows.WireCutsUptoSaid :=
  OpenClaim.holds_of_cond 4 Try.f4 rfl rfl rfl rfl rfl rfl rfl ⟨rfl, rfl, rfl, rfl, rfl⟩ rfl rfl rfl rfl rfl (by kernel_rfl) Try.func4 (by kernel_rfl)
    (of_decide_eq_true (by kernel_rfl)) (by unfold Func.isWrapper; first | (rw [if_pos (by decide +kernel)]; kernel_rfl) | (rw [if_neg (by decide +kernel)]; exact ⟨rfl, rfl⟩))
    (fun os started H enc _ F => lifted hA hrun hb hname os started H enc F)
end Go.Proofs.Ytdhcaghdhaeebaa.wireCuts
