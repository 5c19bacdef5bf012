/- PROVED: SealOpens: any text opened, or why not: for all inputs. CONDITIONS: none. -/
import Derived.Test.YtadmldpphgfiaaaFrameSO
import Derived.Test.YtadmldpphgfiaaaZX2
namespace Go.Proofs.Ytadmldpphgfiaaa.sealOpens
open Go.Eng
theorem proved : Rows.SealOpensSaid :=
  over ok_SealOpens (fun xs h => by
    obtain ⟨a, b, c, rfl, ⟨x, rfl, _⟩, ⟨y, rfl, _⟩, ⟨z, rfl, _⟩⟩ := inAVs3 h
    exact ⟨(), rfl, rfl⟩) (c := codeF f_opalinelaw09_SealOpens) (by kernel_rfl) (by kernel_rfl)
end Go.Proofs.Ytadmldpphgfiaaa.sealOpens
