/-
  No cell of these rows narrows 'for every input' (looked for: loops, veiled, ifaces, maps, wideKeys, modest, calm, conditions, laid).
  DERIVED. THE GIVEN ROWS OF THIS SEAT. 4 by the template 'for every input the law returns true; each argument reads behind the call as it read before'; 0 by the template 'total and deterministic' (their statements: YtkmlepkmhpigeaaGreatTotals.lean).
  GIVEN WITH THE SEED: the statements are not yours to turn. If you find one false, say at which input.
  Laid BY PROGRAM, IN A SANDBOX (cutbox-rows.mjs): the forced cells as the released guide's own fill.sh prints them over the translation f6b87e84ecf8ef5e… (all of the seat's roots in one cut). By AI agents, Wed Nov 11 2026. No macro, syntax, notation, axiom, sorry.
-/
import Derived.Test.YtkmlepkmhpigeaaGreatChecked
import GoSem.Claim
import GoSem.ClaimJoined
import GoSem.ClaimMapViews
import Derived.JoinedTies
import Derived.KernelRfl
namespace Go.Proofs.YtkmlepkmhpigeaaGreat
/- THE CELL 'sum', in the pinned program and in every row, IS THE sha256 OF THE DUMP (.gsa) THAT YtkmlepkmhpigeaaGreatProg.lean LOADS. Nothing in Lean hashes anything: it is a label: what it is worth is what the hold of that sum in a sandbox is worth. -/
noncomputable def Tryz.pinned : Pinned := { name := "ytkmlepkmhpigeaagreat", sum := "f6b87e84ecf8ef5e55283e617cf7b96c154700369fbe836957e756eddbdd3a03", checked := Tryz.checked }
namespace Rows
def none {H : Type} : Left H := { results := [], args := [] }

/-- 'opalinelaw08.RistrettoRoots': WHATEVER THE INPUT: true; the input reads as it did. -/
def ristrettoRootsSpec : ChangeSpec := { name := "ristrettoRoots", fn := fun _ => fun
  | [] => { results := [.lit (.bool true)], args := [] }
  | _ => none }
def ristrettoRootsRow : OpenClaim := { program := "ytkmlepkmhpigeaagreat", sum := "f6b87e84ecf8ef5e55283e617cf7b96c154700369fbe836957e756eddbdd3a03", func := "opaline/opalinelaw08.RistrettoRoots", spec := "ristrettoRoots", inPlace := ["math/bits.Add64", "math/bits.Sub64"], unfollowed := true, recurses := true, named := ["math/bits.divideError", "math/bits.overflowError"], apart := false }
def RistrettoRootsSaid : Prop := ristrettoRootsRow.holds Tryz.pinned (OpenSpec.ofChange ristrettoRootsSpec)

/-- ITS FALSE NEIGHBOUR: 'it returns false'. Refute it at one input. -/
def ristrettoRootsWrong : ChangeSpec := { name := "ristrettoRoots", fn := fun _ => fun
  | [] => { results := [.lit (.bool false)], args := [] }
  | _ => none }
def RistrettoRootsWrongFalsely : Prop := ristrettoRootsRow.holds Tryz.pinned (OpenSpec.ofChange ristrettoRootsWrong)

/-- 'opalinelaw07.CurveAdds': WHATEVER THE INPUT: true; the input reads as it did. -/
def curveAddsSpec : ChangeSpec := { name := "curveAdds", fn := fun _ => fun
  | [d1, d2] => { results := [.lit (.bool true)], args := [d1, d2] }
  | _ => none }
def curveAddsRow : OpenClaim := { program := "ytkmlepkmhpigeaagreat", sum := "f6b87e84ecf8ef5e55283e617cf7b96c154700369fbe836957e756eddbdd3a03", func := "opaline/opalinelaw07.CurveAdds", spec := "curveAdds", inPlace := ["math/bits.Add64", "math/bits.Sub64"], unfollowed := true, recurses := true, named := ["math/bits.divideError", "math/bits.overflowError"], apart := false }
def CurveAddsSaid : Prop := curveAddsRow.holds Tryz.pinned (OpenSpec.ofChange curveAddsSpec)

/-- ITS FALSE NEIGHBOUR: 'it returns false'. Refute it at one input. -/
def curveAddsWrong : ChangeSpec := { name := "curveAdds", fn := fun _ => fun
  | [d1, d2] => { results := [.lit (.bool false)], args := [d1, d2] }
  | _ => none }
def CurveAddsWrongFalsely : Prop := curveAddsRow.holds Tryz.pinned (OpenSpec.ofChange curveAddsWrong)

/-- 'opalinelaw07.CurveTimes': WHATEVER THE INPUT: true; the input reads as it did. -/
def curveTimesSpec : ChangeSpec := { name := "curveTimes", fn := fun _ => fun
  | [d] => { results := [.lit (.bool true)], args := [d] }
  | _ => none }
def curveTimesRow : OpenClaim := { program := "ytkmlepkmhpigeaagreat", sum := "f6b87e84ecf8ef5e55283e617cf7b96c154700369fbe836957e756eddbdd3a03", func := "opaline/opalinelaw07.CurveTimes", spec := "curveTimes", inPlace := ["math/bits.Add64", "math/bits.Sub64"], unfollowed := true, recurses := true, named := ["math/bits.divideError", "math/bits.overflowError"], apart := false }
def CurveTimesSaid : Prop := curveTimesRow.holds Tryz.pinned (OpenSpec.ofChange curveTimesSpec)

/-- ITS FALSE NEIGHBOUR: 'it returns false'. Refute it at one input. -/
def curveTimesWrong : ChangeSpec := { name := "curveTimes", fn := fun _ => fun
  | [d] => { results := [.lit (.bool false)], args := [d] }
  | _ => none }
def CurveTimesWrongFalsely : Prop := curveTimesRow.holds Tryz.pinned (OpenSpec.ofChange curveTimesWrong)

/-- 'opalinelaw08.RistrettoMaps': WHATEVER THE INPUT: true; the input reads as it did. -/
def ristrettoMapsSpec : ChangeSpec := { name := "ristrettoMaps", fn := fun _ => fun
  | [d1, d2] => { results := [.lit (.bool true)], args := [d1, d2] }
  | _ => none }
def ristrettoMapsRow : OpenClaim := { program := "ytkmlepkmhpigeaagreat", sum := "f6b87e84ecf8ef5e55283e617cf7b96c154700369fbe836957e756eddbdd3a03", func := "opaline/opalinelaw08.RistrettoMaps", spec := "ristrettoMaps", inPlace := ["math/bits.Add64", "math/bits.Sub64"], unfollowed := true, recurses := true, named := ["math/bits.divideError", "math/bits.overflowError"], apart := false }
def RistrettoMapsSaid : Prop := ristrettoMapsRow.holds Tryz.pinned (OpenSpec.ofChange ristrettoMapsSpec)

/-- ITS FALSE NEIGHBOUR: 'it returns false'. Refute it at one input. -/
def ristrettoMapsWrong : ChangeSpec := { name := "ristrettoMaps", fn := fun _ => fun
  | [d1, d2] => { results := [.lit (.bool false)], args := [d1, d2] }
  | _ => none }
def RistrettoMapsWrongFalsely : Prop := ristrettoMapsRow.holds Tryz.pinned (OpenSpec.ofChange ristrettoMapsWrong)

/- THE SECOND FORM. 'bulk': how many values and letters a reading holds, each counted each time it is reached (what is shared counts as often as it is met; a slice's spare places count too). A statement '..UptoSaid' is the law's where the arguments, and the package variables that the reading takes, are together of bulk at most 1048576: NARROWER than '..Said'. Prove '..Said' where nothing that the law and all that it calls make is longer than what came in: it says more and counts as full. Else prove '..UptoSaid'. A law counts once. -/
mutual
def uptoBulk {H : Type} : DataW H → Nat
  | .lit (.string bytes) => bytes.length + 1
  | .lit _ => 1
  | .nil => 1
  | .ptr d => uptoBulk d + 1
  | .slice elems spare => uptoBulkAll elems + uptoBulkAll spare + 1
  | .agg parts => uptoBulkAll parts + 1
  | .iface _ d => uptoBulk d + 1
  | .map entries => uptoBulkEntries entries + 1
  | .held _ => 1
def uptoBulkAll {H : Type} : List (DataW H) → Nat
  | [] => 0
  | d :: r => uptoBulk d + uptoBulkAll r
def uptoBulkEntries {H : Type} : List (Lit × DataW H) → Nat
  | [] => 0
  | x :: r => uptoBulkEntry x + uptoBulkEntries r
def uptoBulkEntry {H : Type} : Lit × DataW H → Nat
  | (.string bytes, d) => bytes.length + uptoBulk d + 1
  | (_, d) => uptoBulk d + 1
 end
def uptoSmall : (H : Type) → List (DataW H) → Bool := fun _ ds => decide (uptoBulkAll ds ≤ 1048576)
def OpenSpec.upto (s : _root_.Go.ChangeSpec) : _root_.Go.OpenSpec := { _root_.Go.OpenSpec.ofChange s with cond := some uptoSmall }

/-- 'opalinelaw08.RistrettoRoots', WHERE WHAT IT READS IS OF BULK AT MOST 1048576: true; the input reads as it did. -/
def ristrettoRootsUptoRow : OpenClaim := { program := "ytkmlepkmhpigeaagreat", sum := "f6b87e84ecf8ef5e55283e617cf7b96c154700369fbe836957e756eddbdd3a03", func := "opaline/opalinelaw08.RistrettoRoots", spec := "ristrettoRoots", inPlace := ["math/bits.Add64", "math/bits.Sub64"], unfollowed := true, recurses := true, named := ["math/bits.divideError", "math/bits.overflowError"], apart := false, narrowed := true }
def RistrettoRootsUptoSaid : Prop := ristrettoRootsUptoRow.holds Tryz.pinned (OpenSpec.upto ristrettoRootsSpec)

/-- 'opalinelaw07.CurveAdds', WHERE WHAT IT READS IS OF BULK AT MOST 1048576: true; the input reads as it did. -/
def curveAddsUptoRow : OpenClaim := { program := "ytkmlepkmhpigeaagreat", sum := "f6b87e84ecf8ef5e55283e617cf7b96c154700369fbe836957e756eddbdd3a03", func := "opaline/opalinelaw07.CurveAdds", spec := "curveAdds", inPlace := ["math/bits.Add64", "math/bits.Sub64"], unfollowed := true, recurses := true, named := ["math/bits.divideError", "math/bits.overflowError"], apart := false, narrowed := true }
def CurveAddsUptoSaid : Prop := curveAddsUptoRow.holds Tryz.pinned (OpenSpec.upto curveAddsSpec)

/-- 'opalinelaw07.CurveTimes', WHERE WHAT IT READS IS OF BULK AT MOST 1048576: true; the input reads as it did. -/
def curveTimesUptoRow : OpenClaim := { program := "ytkmlepkmhpigeaagreat", sum := "f6b87e84ecf8ef5e55283e617cf7b96c154700369fbe836957e756eddbdd3a03", func := "opaline/opalinelaw07.CurveTimes", spec := "curveTimes", inPlace := ["math/bits.Add64", "math/bits.Sub64"], unfollowed := true, recurses := true, named := ["math/bits.divideError", "math/bits.overflowError"], apart := false, narrowed := true }
def CurveTimesUptoSaid : Prop := curveTimesUptoRow.holds Tryz.pinned (OpenSpec.upto curveTimesSpec)

/-- 'opalinelaw08.RistrettoMaps', WHERE WHAT IT READS IS OF BULK AT MOST 1048576: true; the input reads as it did. -/
def ristrettoMapsUptoRow : OpenClaim := { program := "ytkmlepkmhpigeaagreat", sum := "f6b87e84ecf8ef5e55283e617cf7b96c154700369fbe836957e756eddbdd3a03", func := "opaline/opalinelaw08.RistrettoMaps", spec := "ristrettoMaps", inPlace := ["math/bits.Add64", "math/bits.Sub64"], unfollowed := true, recurses := true, named := ["math/bits.divideError", "math/bits.overflowError"], apart := false, narrowed := true }
def RistrettoMapsUptoSaid : Prop := ristrettoMapsUptoRow.holds Tryz.pinned (OpenSpec.upto ristrettoMapsSpec)

end Rows
end Go.Proofs.YtkmlepkmhpigeaaGreat
