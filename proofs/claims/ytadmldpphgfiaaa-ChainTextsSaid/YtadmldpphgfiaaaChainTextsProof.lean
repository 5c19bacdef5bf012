/- PROVED: ChainTexts: any entry as a text; what any text is: for all inputs. CONDITIONS: none. -/
import Derived.Test.YtadmldpphgfiaaaFrameCT
import Derived.Test.YtadmldpphgfiaaaZC1
namespace Go.Proofs.Ytadmldpphgfiaaa.chainTexts
open Go.Eng
theorem wf64 {n : Int} (h : (Lit.int .u64 n).wf = true) : in64 n = true := by
  simp only [Lit.wf, Bool.and_eq_true, decide_eq_true_eq] at h
  have m1 : IntKind.u64.min = 0 := rfl
  have m2 : IntKind.u64.max = 18446744073709551615 := rfl
  rw [m1, m2] at h
  exact decide_eq_true (by omega)
theorem lf_cons {l : Leaf} {ls : List Leaf} {ys : List Pl} (h : inLeafs (l :: ls) ys) : ∃ y r, ys = y :: r ∧ inLeaf l y ∧ inLeafs ls r := by
  cases ys with
  | nil => exact h.elim
  | cons y r => exact ⟨y, r, rfl, h.1, h.2⟩
theorem lf_nil {ys : List Pl} (h : inLeafs [] ys) : ys = [] := by
  cases ys with
  | nil => rfl
  | cons y r => exact h.elim
theorem leafs5 {ys : List Pl} (h : inLeafs [.int .u64, .int .u64, .int .i64, .str, .str] ys) : ∃ (a b k : Int) (s t : Str), ys = [.int .u64 a, .int .u64 b, .int .i64 k, .str s, .str t] ∧ in64 a = true ∧ in64 b = true := by
  obtain ⟨y1, r1, rfl, ⟨a, h1, w1⟩, h⟩ := lf_cons h
  obtain ⟨y2, r2, rfl, ⟨b, h2, w2⟩, h⟩ := lf_cons h
  obtain ⟨y3, r3, rfl, ⟨k, h3, _⟩, h⟩ := lf_cons h
  obtain ⟨y4, r4, rfl, ⟨s, h4, _⟩, h⟩ := lf_cons h
  obtain ⟨y5, r5, rfl, ⟨t, h5, _⟩, h⟩ := lf_cons h
  have e := lf_nil h
  exact ⟨a, b, k, s, t, by rw [h1, h2, h3, h4, h5, e], wf64 w1, wf64 w2⟩
theorem proved : Rows.ChainTextsSaid :=
  over ok_ChT (fun xs h => by
    obtain ⟨x, y, rfl, ⟨ys, rfl, hy⟩, ⟨u, rfl, _⟩⟩ := inBVs_2 h
    obtain ⟨a, b, k, s, t, rfl, ha, hb⟩ := leafs5 hy
    refine ⟨(), ?_, rfl⟩
    show cond (in64 a && in64 b) (some ()) none = _
    rw [ha, hb]; rfl) (c := codeF f_opalinelaw19_ChainTexts) (by kernel_rfl) (by kernel_rfl)
end Go.Proofs.Ytadmldpphgfiaaa.chainTexts
