/-
  No cell of these rows narrows 'for every input' (looked for: loops, veiled, ifaces, maps, wideKeys, modest, calm, conditions, laid).
  DERIVED. THE GIVEN ROWS OF THIS SEAT. 3 by the template 'for every input the law returns true; each argument reads behind the call as it read before'; 0 by the template 'total and deterministic' (their statements: YteipjabipehbpaaGreatTotals.lean).
  GIVEN WITH THE SEED: the statements are not yours to turn. If you find one false, say at which input.
  Laid BY PROGRAM, IN A SANDBOX (cutbox-rows.mjs): the forced cells as the released guide's own fill.sh prints them over the translation e961f5b6fe2d0f3b… (all of the seat's roots in one cut). By AI agents, Wed Nov 11 2026. No macro, syntax, notation, axiom, sorry.
-/
import Derived.Test.YteipjabipehbpaaGreatChecked
import GoSem.Claim
import GoSem.ClaimJoined
import GoSem.ClaimMapViews
import Derived.JoinedTies
import Derived.KernelRfl
namespace Go.Proofs.YteipjabipehbpaaGreat
/- THE CELL 'sum', in the pinned program and in every row, IS THE sha256 OF THE DUMP (.gsa) THAT YteipjabipehbpaaGreatProg.lean LOADS. Nothing in Lean hashes anything: it is a label: what it is worth is what the hold of that sum in a sandbox is worth. -/
noncomputable def Tryz.pinned : Pinned := { name := "yteipjabipehbpaagreat", sum := "e961f5b6fe2d0f3b9a68313cba4480353c71f33c8622b80dfbac48bba9bab2a6", checked := Tryz.checked }
namespace Rows
def none {H : Type} : Left H := { results := [], args := [] }

/-- 'opalinelaw10.OprfAdds': WHATEVER THE INPUT: true; the input reads as it did. -/
def oprfAddsSpec : ChangeSpec := { name := "oprfAdds", fn := fun _ => fun
  | [d1, d2, d3] => { results := [.lit (.bool true)], args := [d1, d2, d3] }
  | _ => none }
def oprfAddsRow : OpenClaim := { program := "yteipjabipehbpaagreat", sum := "e961f5b6fe2d0f3b9a68313cba4480353c71f33c8622b80dfbac48bba9bab2a6", func := "opaline/opalinelaw10.OprfAdds", spec := "oprfAdds", inPlace := ["internal/abi.NoEscape", "internal/bytealg.MakeNoZero", "math/bits.Add64", "math/bits.Sub64"], unfollowed := true, recurses := true, named := ["math/bits.divideError", "math/bits.overflowError"], apart := false }
def OprfAddsSaid : Prop := oprfAddsRow.holds Tryz.pinned (OpenSpec.ofChange oprfAddsSpec)

/-- ITS FALSE NEIGHBOUR: 'it returns false'. Refute it at one input. -/
def oprfAddsWrong : ChangeSpec := { name := "oprfAdds", fn := fun _ => fun
  | [d1, d2, d3] => { results := [.lit (.bool false)], args := [d1, d2, d3] }
  | _ => none }
def OprfAddsWrongFalsely : Prop := oprfAddsRow.holds Tryz.pinned (OpenSpec.ofChange oprfAddsWrong)

/-- 'opalinelaw13.AkeTalks': WHATEVER THE INPUT: true; the input reads as it did. -/
def akeTalksSpec : ChangeSpec := { name := "akeTalks", fn := fun _ => fun
  | [d1, d2] => { results := [.lit (.bool true)], args := [d1, d2] }
  | _ => none }
def akeTalksRow : OpenClaim := { program := "yteipjabipehbpaagreat", sum := "e961f5b6fe2d0f3b9a68313cba4480353c71f33c8622b80dfbac48bba9bab2a6", func := "opaline/opalinelaw13.AkeTalks", spec := "akeTalks", inPlace := ["internal/abi.NoEscape", "internal/bytealg.MakeNoZero", "math/bits.Add64", "math/bits.Sub64"], unfollowed := true, recurses := true, named := ["math/bits.divideError", "math/bits.overflowError"], apart := false }
def AkeTalksSaid : Prop := akeTalksRow.holds Tryz.pinned (OpenSpec.ofChange akeTalksSpec)

/-- ITS FALSE NEIGHBOUR: 'it returns false'. Refute it at one input. -/
def akeTalksWrong : ChangeSpec := { name := "akeTalks", fn := fun _ => fun
  | [d1, d2] => { results := [.lit (.bool false)], args := [d1, d2] }
  | _ => none }
def AkeTalksWrongFalsely : Prop := akeTalksRow.holds Tryz.pinned (OpenSpec.ofChange akeTalksWrong)

/-- 'opalinelaw13.AkeMeets': WHATEVER THE INPUT: true; the input reads as it did. -/
def akeMeetsSpec : ChangeSpec := { name := "akeMeets", fn := fun _ => fun
  | [d1, d2, d3, d4, d5] => { results := [.lit (.bool true)], args := [d1, d2, d3, d4, d5] }
  | _ => none }
def akeMeetsRow : OpenClaim := { program := "yteipjabipehbpaagreat", sum := "e961f5b6fe2d0f3b9a68313cba4480353c71f33c8622b80dfbac48bba9bab2a6", func := "opaline/opalinelaw13.AkeMeets", spec := "akeMeets", inPlace := ["internal/abi.NoEscape", "internal/bytealg.MakeNoZero", "math/bits.Add64", "math/bits.Sub64"], unfollowed := true, recurses := true, named := ["math/bits.divideError", "math/bits.overflowError"], apart := false }
def AkeMeetsSaid : Prop := akeMeetsRow.holds Tryz.pinned (OpenSpec.ofChange akeMeetsSpec)

/-- ITS FALSE NEIGHBOUR: 'it returns false'. Refute it at one input. -/
def akeMeetsWrong : ChangeSpec := { name := "akeMeets", fn := fun _ => fun
  | [d1, d2, d3, d4, d5] => { results := [.lit (.bool false)], args := [d1, d2, d3, d4, d5] }
  | _ => none }
def AkeMeetsWrongFalsely : Prop := akeMeetsRow.holds Tryz.pinned (OpenSpec.ofChange akeMeetsWrong)

/- THE SECOND FORM. 'bulk': how many values and letters a reading holds, each counted each time it is reached (what is shared counts as often as it is met; a slice's spare places count too). A statement '..UptoSaid' is the law's where the arguments, and the package variables that the reading takes, are together of bulk at most 1048576: NARROWER than '..Said'. Prove '..Said' where nothing that the law and all that it calls make is longer than what came in: it says more and counts as full. Else prove '..UptoSaid'. A law counts once. -/
mutual
def uptoBulk {H : Type} : DataW H → Nat
  | .lit (.string bytes) => bytes.length + 1
  | .lit _ => 1
  | .nil => 1
  | .ptr d => uptoBulk d + 1
  | .slice elems spare => uptoBulkAll elems + uptoBulkAll spare + 1
  | .agg parts => uptoBulkAll parts + 1
  | .iface _ d => uptoBulk d + 1
  | .map entries => uptoBulkEntries entries + 1
  | .held _ => 1
def uptoBulkAll {H : Type} : List (DataW H) → Nat
  | [] => 0
  | d :: r => uptoBulk d + uptoBulkAll r
def uptoBulkEntries {H : Type} : List (Lit × DataW H) → Nat
  | [] => 0
  | x :: r => uptoBulkEntry x + uptoBulkEntries r
def uptoBulkEntry {H : Type} : Lit × DataW H → Nat
  | (.string bytes, d) => bytes.length + uptoBulk d + 1
  | (_, d) => uptoBulk d + 1
 end
def uptoSmall : (H : Type) → List (DataW H) → Bool := fun _ ds => decide (uptoBulkAll ds ≤ 1048576)
def OpenSpec.upto (s : _root_.Go.ChangeSpec) : _root_.Go.OpenSpec := { _root_.Go.OpenSpec.ofChange s with cond := some uptoSmall }

/-- 'opalinelaw10.OprfAdds', WHERE WHAT IT READS IS OF BULK AT MOST 1048576: true; the input reads as it did. -/
def oprfAddsUptoRow : OpenClaim := { program := "yteipjabipehbpaagreat", sum := "e961f5b6fe2d0f3b9a68313cba4480353c71f33c8622b80dfbac48bba9bab2a6", func := "opaline/opalinelaw10.OprfAdds", spec := "oprfAdds", inPlace := ["internal/abi.NoEscape", "internal/bytealg.MakeNoZero", "math/bits.Add64", "math/bits.Sub64"], unfollowed := true, recurses := true, named := ["math/bits.divideError", "math/bits.overflowError"], apart := false, narrowed := true }
def OprfAddsUptoSaid : Prop := oprfAddsUptoRow.holds Tryz.pinned (OpenSpec.upto oprfAddsSpec)

/-- 'opalinelaw13.AkeTalks', WHERE WHAT IT READS IS OF BULK AT MOST 1048576: true; the input reads as it did. -/
def akeTalksUptoRow : OpenClaim := { program := "yteipjabipehbpaagreat", sum := "e961f5b6fe2d0f3b9a68313cba4480353c71f33c8622b80dfbac48bba9bab2a6", func := "opaline/opalinelaw13.AkeTalks", spec := "akeTalks", inPlace := ["internal/abi.NoEscape", "internal/bytealg.MakeNoZero", "math/bits.Add64", "math/bits.Sub64"], unfollowed := true, recurses := true, named := ["math/bits.divideError", "math/bits.overflowError"], apart := false, narrowed := true }
def AkeTalksUptoSaid : Prop := akeTalksUptoRow.holds Tryz.pinned (OpenSpec.upto akeTalksSpec)

/-- 'opalinelaw13.AkeMeets', WHERE WHAT IT READS IS OF BULK AT MOST 1048576: true; the input reads as it did. -/
def akeMeetsUptoRow : OpenClaim := { program := "yteipjabipehbpaagreat", sum := "e961f5b6fe2d0f3b9a68313cba4480353c71f33c8622b80dfbac48bba9bab2a6", func := "opaline/opalinelaw13.AkeMeets", spec := "akeMeets", inPlace := ["internal/abi.NoEscape", "internal/bytealg.MakeNoZero", "math/bits.Add64", "math/bits.Sub64"], unfollowed := true, recurses := true, named := ["math/bits.divideError", "math/bits.overflowError"], apart := false, narrowed := true }
def AkeMeetsUptoSaid : Prop := akeMeetsUptoRow.holds Tryz.pinned (OpenSpec.upto akeMeetsSpec)

end Rows
end Go.Proofs.YteipjabipehbpaaGreat
