/- PROVED: LimbReckons: sums, differences, products, quotients of two numbers of 512 bits are the document's: for all inputs. CONDITIONS: none. -/
import Derived.Test.YtdhcaghdhaeebaaFrameLR
import Derived.Test.YtdhcaghdhaeebaaPLR
namespace Go.Proofs.Ytdhcaghdhaeebaa.limbReckons
open Go.Eng
theorem proved : Rows.LimbReckonsSaid :=
  over ok_LR (fun xs h => by
    obtain ⟨x, y, rfl, ⟨a, rfl, la, wa⟩, ⟨b, rfl, lb, wb⟩⟩ := inAVs2 h
    exact ⟨(), run2_some (fun _ _ => ()) (ok8_in la wa) (ok8_in lb wb), rfl⟩) (c := codeF Try.f8) (by kernel_rfl) (by kernel_rfl)
end Go.Proofs.Ytdhcaghdhaeebaa.limbReckons
