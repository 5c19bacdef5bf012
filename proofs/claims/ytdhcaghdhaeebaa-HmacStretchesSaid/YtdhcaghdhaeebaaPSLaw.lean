/- The laws ShaCounts, ShaTexts: they answer true, whatever comes in. -/
import Derived.Test.YtdhcaghdhaeebaaZS2
import Derived.Test.YtdhcaghdhaeebaaGSha6
namespace Go.Eng
open Go Go.Proofs
set_option linter.unusedVariables false
set_option linter.unusedSimpArgs false
noncomputable abbrev gI_AwB : Cg := g_AwB (PUnit) rTrue
theorem gok_AwB : CfOk prog gI_AwB.c := ⟨gam_cons ok_awake02 <| gam_nil, fun _ _ h => by cases h⟩
noncomputable abbrev gI_LSC : Cg := g_LSC (PUnit) rTrue (List UInt8) rCounted (fun t => t)
theorem gok_LSC : CfOk prog gI_LSC.c := ⟨gam_cons ok_awake02 <| gam_cons ok_Counted <| gam_nil, fun _ _ h => by cases h⟩
noncomputable abbrev gI_LST : Cg := g_LST (PUnit) rTrue (List UInt8) rHex (fun t => t) (Str × Bool) rParse16 (fun t => t.fst) (fun t => t.2) (List UInt8) rRefHex (fun t => t) (List UInt8) rCounted (fun t => t) (List UInt8) rTwoB (fun t => t)
theorem gok_LST : CfOk prog gI_LST.c := ⟨gam_cons ok_awake02 <| gam_cons ok_Hex <| gam_cons ok_Parse16 <| gam_cons ok_RefHex <| gam_cons ok_Counted <| gam_cons ok_Two <| gam_nil, fun _ _ h => by cases h⟩
theorem ok_Awake02 : CallOk prog n_opalinelaw02_Awake sTrue := by
  refine afunc_okE (g := gI_AwB) (fu := fun _ => 0) mixed gok_AwB h_opalinelaw02_Awake (by kernel_rfl) ?_
  intro args t ht
  unfold sTrue at ht
  simp only at ht
  split at ht
  · cases ht
    refine (AwB_ev ..).trans ?_
    rw [show rTrue [] = some () from rfl, Option.bind_some]; rfl
  · cases ht
def sTS4 : Summ where
  T := Unit
  run := fun
    | [.c (.s (.pl (.str a))), .c (.s (.pl (.str b))), .c (.s (.pl (.str c))), .c (.s (.pl (.str d)))] => some ()
    | _ => none
  enc := fun _ => .bool true
def sTS2 : Summ where
  T := Unit
  run := fun
    | [.c (.s (.pl (.str a))), .c (.s (.pl (.str b)))] => some ()
    | _ => none
  enc := fun _ => .bool true
theorem le_mx (x y : Int) : x ≤ (if y > x then y else x) ∧ y ≤ (if y > x then y else x) := by split <;> omega
theorem ok_LSC : CallOk prog n_opalinelaw02_ShaCounts sTS4 := by
  refine afunc_okE (g := gI_LSC) (fu := fun _ => 0) mixed gok_LSC h_opalinelaw02_ShaCounts (by kernel_rfl) ?_
  intro args t ht
  unfold sTS4 at ht
  simp only at ht
  split at ht
  · rename_i a b c d
    clear ht
    refine (LSC_ev ..).trans ?_
    rw [show rTrue [] = some () from rfl, Option.bind_some]
    have m1 := le_mx (a.length : Int) (b.length : Int)
    generalize (if ((b.length : Nat) : Int) > (a.length : Int) then (b.length : Int) else (a.length : Int)) = x at m1 ⊢
    have m2 := le_mx x (c.length : Int)
    generalize (if ((c.length : Nat) : Int) > x then (c.length : Int) else x) = y at m2 ⊢
    have m3 := le_mx y (d.length : Int)
    generalize (if ((d.length : Nat) : Int) > y then (d.length : Int) else y) = z at m3 ⊢
    by_cases h : 500 < z
    · rw [decide_eq_true h, cond_true]; rfl
    · have l1 := cnt2_len a b
      have l2 := cnt2_len c d
      have l3 := cnt3_len a b c
      rw [decide_eq_false h, cond_false]
      show (rCounted [.s (.dat (.strs [a, b]) 2 1)]).bind _ = _
      rw [run_Counted rfl (by simp) (by omega), Option.bind_some]
      show (rCounted [.s (.dat (.strs [c, d]) 2 1)]).bind _ = _
      rw [run_Counted rfl (by simp) (by omega), Option.bind_some]
      have e : (decide (cntL [a, b] = cntL [c, d]) == (decide (a = c) && decide (b = d))) = true := by
        rw [← Bool.decide_and, decide_eq_decide.2 (cnt_pair (by omega) (by omega) (by omega) (by omega))]
        exact BEq.rfl
      rw [e, cond_true]
      show (rCounted [.s (.dat (.strs [a, b, c]) 3 1)]).bind _ = _
      rw [run_Counted rfl (by simp) (by omega), Option.bind_some, wi64 (n := (a.length : Int) + (b.length : Int)) (by omega) (by omega), wi64 (n := (a.length : Int) + (b.length : Int) + (c.length : Int)) (by omega) (by omega), wi64 (by omega) (by omega), decide_eq_true (by rw [l3]; omega)]; rfl
  · cases ht
theorem ok_LST : CallOk prog n_opalinelaw02_ShaTexts sTS2 := by
  refine afunc_okE (g := gI_LST) (fu := fun _ => 0) mixed gok_LST h_opalinelaw02_ShaTexts (by kernel_rfl) ?_
  intro args r ht
  unfold sTS2 at ht
  simp only at ht
  split at ht
  · rename_i s t
    clear ht
    refine (LST_ev ..).trans ?_
    rw [show rTrue [] = some () from rfl, Option.bind_some]
    by_cases h1 : 1000 < s.length
    · rw [decide_eq_true (by omega), cond_true]; rfl
    by_cases h2 : 1000 < t.length
    · rw [decide_eq_true (by omega : (1000 : Int) < (t.length : Int)), cond_true]
      cases decide ((1000 : Int) < (s.length : Int)) <;> rfl
    have hx := hexS_len s
    rw [decide_eq_false (by omega), cond_false, decide_eq_false (by omega), cond_false, run_Hex (by omega), Option.bind_some, run_Parse16 (by omega), Option.bind_some, run_Parse16 (by omega), Option.bind_some, Option.bind_some, run_RefHex (by omega), Option.bind_some, parse16_hex]
    rw [decide_eq_true rfl, decide_eq_true rfl]
    have l1 := cnt2_len s t
    have l2 := cnt2_len (s ++ t) []
    rw [List.length_append] at l2
    have c1 : rCounted [.s (.dat (.strs ([s] ++ [t])) 2 1)] = some (cntL [s, t]) := run_Counted rfl (by simp) (by show (cntL [s, t]).length ≤ _; omega)
    have c2 : rCounted [.s (.dat (.strs ([s ++ t] ++ [[]])) 2 1)] = some (cntL [s ++ t, []]) := run_Counted rfl (by simp) (by show (cntL [s ++ t, []]).length ≤ _; rw [l2]; simp; omega)
    have c3 : rCounted [.s (.dat (.strs []) 0 1)] = some [] := rfl
    have t1 := run_Two (n := s.length) (by omega)
    have t2 := run_Two (n := t.length) (by omega)
    have eq : cntL [s, t] = pre2 s.length ++ s ++ pre2 t.length ++ t := by simp only [cntL, List.append_nil, List.append_assoc]
    have e : (decide (cntL [s, t] = cntL [s ++ t, []]) == decide (t = [])) = true := by
      have : cntL [s, t] = cntL [s ++ t, []] ↔ t = [] := by
        rw [cnt_pair (by omega) (by omega) (by rw [List.length_append]; omega) (by decide)]
        constructor
        · exact fun h => h.2
        · rintro rfl; exact ⟨(List.append_nil s).symm, rfl⟩
      rw [decide_eq_decide.2 this]
      exact BEq.rfl
    rw [c1, Option.bind_some, t1, Option.bind_some, t2, Option.bind_some, c3, Option.bind_some, c2]
    simp only [Option.bind_some]
    rw [decide_eq_true eq, e]
    have d1 : decide ((pre2 s.length).length + s.length ≤ 9223372036854775807) = true := decide_eq_true (by rw [pre2_len]; omega)
    have d2 : decide (List.length (pre2 s.length ++ s) + (pre2 t.length).length ≤ 9223372036854775807) = true := decide_eq_true (by rw [List.length_append, pre2_len, pre2_len]; omega)
    have d3 : decide (List.length (pre2 s.length ++ s ++ pre2 t.length) + t.length ≤ 9223372036854775807) = true := decide_eq_true (by rw [List.length_append, List.length_append, pre2_len, pre2_len]; omega)
    have d4 : decide (s.length + t.length ≤ 9223372036854775807) = true := decide_eq_true (by omega)
    rcases parse16_back t with h | ⟨b, h, hb⟩
    · rw [h, d1, d2, d3, d4]; rfl
    · have lb := hexS_len b
      rw [hb] at lb
      rw [h, d1, d2, d3, d4]
      show (bif true then bif true then (rHex [.str b]).bind _ else _ else _) = _
      rw [run_Hex (by omega), Option.bind_some, hb, decide_eq_true rfl]; rfl
  · cases ht
end Go.Eng
