/- PROVED: ChainFront: each beginning of a chain's texts leads to the head that it had then: for all inputs. CONDITIONS: none. -/
import Derived.Test.YtdcaobkcdgojgaaFrameCF
import Derived.Test.YtdcaobkcdgojgaaZC5
namespace Go.Proofs.Ytdcaobkcdgojgaa.chainFront
open Go.Eng
theorem okTk_of {l : List Int} (h : ∀ x ∈ l, (Go.Lit.int .u64 x).wf = true) : okTk l = true :=
  List.all_eq_true.2 fun x hx => decide_eq_true (by
    have w := h x hx
    simp only [Go.Lit.wf, Bool.and_eq_true, decide_eq_true_eq] at w
    have m1 : Go.IntKind.u64.min = 0 := rfl
    have m2 : Go.IntKind.u64.max = 18446744073709551615 := rfl
    rw [m1, m2] at w
    omega)
theorem proved : Rows.ChainFrontSaid :=
  over ok_LCF (fun xs h => by
    obtain ⟨x, rfl, cs, n, rfl, hc⟩ := inBVs_1 h
    match cs, hc with
    | [a, b, c, d], hc =>
      obtain ⟨⟨tk, rfl, _, w⟩, ⟨k, rfl, _⟩, ⟨s, rfl, _⟩, ⟨t, rfl, _⟩, _⟩ := hc
      refine ⟨(), ?_, rfl⟩
      show cond (okTk tk) (some ()) none = _
      rw [okTk_of w]; rfl) (c := codeF f_opalinelaw19_ChainFront) (by kernel_rfl) (by kernel_rfl)
end Go.Proofs.Ytdcaobkcdgojgaa.chainFront
