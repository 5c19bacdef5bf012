/- PROVED: SealRows: of fewer bytes a row is a beginning of what it is of more; two texts sealed alike differ just where they do: for all inputs. CONDITIONS: none. -/
import Derived.Test.YtadmldpphgfiaaaFrameSR
import Derived.Test.YtadmldpphgfiaaaZX2
namespace Go.Proofs.Ytadmldpphgfiaaa.sealRows
open Go.Eng
theorem proved : Rows.SealRowsSaid :=
  over ok_SealRows (fun xs h => by
    obtain ⟨a, b, c, d, rfl, ⟨x, rfl, _⟩, ⟨y, rfl, ly, _⟩, ⟨z, rfl, _⟩, ⟨u, rfl, _⟩⟩ := inAVs4 h
    refine ⟨(), ?_, rfl⟩
    show cond (Nat.beq y.length 32) (some ()) none = some ()
    rw [ly]; rfl) (c := codeF f_opalinelaw09_SealRows) (by kernel_rfl) (by kernel_rfl)
end Go.Proofs.Ytadmldpphgfiaaa.sealRows
