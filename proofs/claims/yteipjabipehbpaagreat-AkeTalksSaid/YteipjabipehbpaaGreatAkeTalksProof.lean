/- PROVED: AkeTalks: what was said, and the keys that come of it: for all inputs. CONDITIONS: none. -/
import Derived.Test.YteipjabipehbpaaGreatFrameAT
import Derived.Test.YteipjabipehbpaaGreatZO5
namespace Go.Proofs.YteipjabipehbpaaGreat.akeTalks
open Go.Eng
theorem proved : Rows.AkeTalksSaid :=
  over ok_LAT (fun xs h => by
    obtain ⟨ss, s, rfl, ls⟩ := h
    match ss, ls with
    | [a, b, c, d, e, f, g], _ => exact ⟨(), rfl, rfl⟩) (c := codeF f_opalinelaw13_AkeTalks) (by kernel_rfl) (by kernel_rfl)
end Go.Proofs.YteipjabipehbpaaGreat.akeTalks
