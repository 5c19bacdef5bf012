/- PROVED: WireReads: the message of any kind that any text is, and back: for all inputs. CONDITIONS: none. -/
import Derived.Test.YtdhcaghdhaeebaaFrameWR
import Derived.Test.YtdhcaghdhaeebaaZW1
namespace Go.Proofs.Ytdhcaghdhaeebaa.wireReads
open Go.Eng
theorem proved : Rows.WireReadsSaid :=
  over ok_WireReads (fun xs h => by
    obtain ⟨a, rfl, ⟨x, rfl, _⟩⟩ := inAVs1 h
    exact ⟨(), rfl, rfl⟩) (c := codeF f_opalinelaw11_WireReads) (by kernel_rfl) (by kernel_rfl)
end Go.Proofs.Ytdhcaghdhaeebaa.wireReads
