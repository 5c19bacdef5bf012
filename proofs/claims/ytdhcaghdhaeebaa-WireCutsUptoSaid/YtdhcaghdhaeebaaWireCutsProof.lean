/- PROVED: WireCuts, where what comes in is of bulk at most 1048576: any text cut into parts of any lengths, and any parts put together, or why not. CONDITIONS: the bulk (the whole statement is false by size). -/
import Derived.Test.YtdhcaghdhaeebaaFrameWC
import Derived.Test.YtdhcaghdhaeebaaZW1
namespace Go.Proofs.Ytdhcaghdhaeebaa.wireCuts
open Go.Eng
theorem proved : Rows.WireCutsUptoSaid :=
  over ok_WireCuts (fun s l ss h1 h2 h3 h4 => by
    have e1 : okLs l l.length = true := by
      unfold okLs
      rw [Nat.beq_refl, Nat.ble_eq_true_of_le h2, Bool.true_and, Bool.true_and, List.all_eq_true]
      intro x hx
      have := h1 x hx
      simp only [Lit.wf, Bool.and_eq_true, decide_eq_true_eq] at this
      have m1 : IntKind.i64.min = -9223372036854775808 := rfl
      have m2 : IntKind.i64.max = 9223372036854775807 := rfl
      rw [m1, m2] at this
      exact decide_eq_true (by omega)
    have e2 : okSs ss ss.length = true := okSs_of rfl h3 (by omega)
    refine ⟨(), ?_, rfl⟩
    show cond (okLs l l.length && okSs ss ss.length) (some ()) none = _
    rw [e1, e2]; rfl) (c := codeF f_opalinelaw11_WireCuts) (by kernel_rfl) (by kernel_rfl)
end Go.Proofs.Ytdhcaghdhaeebaa.wireCuts
