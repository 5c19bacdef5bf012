/-
  No cell of these rows narrows 'for every input' (looked for: loops, veiled, ifaces, maps, wideKeys, modest, calm, conditions, laid).
  DERIVED. THE GIVEN ROWS OF THIS SEAT. 6 by the template 'for every input the law returns true; each argument reads behind the call as it read before'; 0 by the template 'total and deterministic' (their statements: YtkmlepkmhpigeaaTotals.lean).
  GIVEN WITH THE SEED: the statements are not yours to turn. If you find one false, say at which input.
  Laid BY PROGRAM, IN A SANDBOX (cutbox-rows.mjs): the forced cells as the released guide's own fill.sh prints them over the translation 9853c8a622ef9468… (all of the seat's roots in one cut). By AI agents, Wed Nov 11 2026. No macro, syntax, notation, axiom, sorry.
-/
import Derived.Test.YtkmlepkmhpigeaaChecked
import GoSem.Claim
import GoSem.ClaimJoined
import GoSem.ClaimMapViews
import Derived.JoinedTies
import Derived.KernelRfl
namespace Go.Proofs.Ytkmlepkmhpigeaa
/- THE CELL 'sum', in the pinned program and in every row, IS THE sha256 OF THE DUMP (.gsa) THAT YtkmlepkmhpigeaaProg.lean LOADS. Nothing in Lean hashes anything: it is a label: what it is worth is what the hold of that sum in a sandbox is worth. -/
noncomputable def Try.pinned : Pinned := { name := "ytkmlepkmhpigeaa", sum := "9853c8a622ef9468e8081f3425341b660cbc680869c9449991cc5a880651d02a", checked := Try.checked }
namespace Rows
def none {H : Type} : Left H := { results := [], args := [] }

/-- 'opalinelaw07.CurveOrder': WHATEVER THE INPUT: true; the input reads as it did. -/
def curveOrderSpec : ChangeSpec := { name := "curveOrder", fn := fun _ => fun
  | [] => { results := [.lit (.bool true)], args := [] }
  | _ => none }
def curveOrderRow : OpenClaim := { program := "ytkmlepkmhpigeaa", sum := "9853c8a622ef9468e8081f3425341b660cbc680869c9449991cc5a880651d02a", func := "opaline/opalinelaw07.CurveOrder", spec := "curveOrder", inPlace := ["math/bits.Add64", "math/bits.Sub64"], unfollowed := true, recurses := true, named := ["math/bits.divideError", "math/bits.overflowError"], apart := false }
def CurveOrderSaid : Prop := curveOrderRow.holds Try.pinned (OpenSpec.ofChange curveOrderSpec)

/-- ITS FALSE NEIGHBOUR: 'it returns false'. Refute it at one input. -/
def curveOrderWrong : ChangeSpec := { name := "curveOrder", fn := fun _ => fun
  | [] => { results := [.lit (.bool false)], args := [] }
  | _ => none }
def CurveOrderWrongFalsely : Prop := curveOrderRow.holds Try.pinned (OpenSpec.ofChange curveOrderWrong)

/-- 'opalinelaw07.CurveAt': WHATEVER THE INPUT: true; the input reads as it did. -/
def curveAtSpec : ChangeSpec := { name := "curveAt", fn := fun _ => fun
  | [d1, d2] => { results := [.lit (.bool true)], args := [d1, d2] }
  | _ => none }
def curveAtRow : OpenClaim := { program := "ytkmlepkmhpigeaa", sum := "9853c8a622ef9468e8081f3425341b660cbc680869c9449991cc5a880651d02a", func := "opaline/opalinelaw07.CurveAt", spec := "curveAt", inPlace := ["math/bits.Add64", "math/bits.Sub64"], unfollowed := true, recurses := true, named := ["math/bits.divideError", "math/bits.overflowError"], apart := false }
def CurveAtSaid : Prop := curveAtRow.holds Try.pinned (OpenSpec.ofChange curveAtSpec)

/-- ITS FALSE NEIGHBOUR: 'it returns false'. Refute it at one input. -/
def curveAtWrong : ChangeSpec := { name := "curveAt", fn := fun _ => fun
  | [d1, d2] => { results := [.lit (.bool false)], args := [d1, d2] }
  | _ => none }
def CurveAtWrongFalsely : Prop := curveAtRow.holds Try.pinned (OpenSpec.ofChange curveAtWrong)

/-- 'opalinelaw07.CurveLaws': WHATEVER THE INPUT: true; the input reads as it did. -/
def curveLawsSpec : ChangeSpec := { name := "curveLaws", fn := fun _ => fun
  | [d1, d2, d3] => { results := [.lit (.bool true)], args := [d1, d2, d3] }
  | _ => none }
def curveLawsRow : OpenClaim := { program := "ytkmlepkmhpigeaa", sum := "9853c8a622ef9468e8081f3425341b660cbc680869c9449991cc5a880651d02a", func := "opaline/opalinelaw07.CurveLaws", spec := "curveLaws", inPlace := ["math/bits.Add64", "math/bits.Sub64"], unfollowed := true, recurses := true, named := ["math/bits.divideError", "math/bits.overflowError"], apart := false }
def CurveLawsSaid : Prop := curveLawsRow.holds Try.pinned (OpenSpec.ofChange curveLawsSpec)

/-- ITS FALSE NEIGHBOUR: 'it returns false'. Refute it at one input. -/
def curveLawsWrong : ChangeSpec := { name := "curveLaws", fn := fun _ => fun
  | [d1, d2, d3] => { results := [.lit (.bool false)], args := [d1, d2, d3] }
  | _ => none }
def CurveLawsWrongFalsely : Prop := curveLawsRow.holds Try.pinned (OpenSpec.ofChange curveLawsWrong)

/-- 'opalinelaw08.RistrettoReadsSums': WHATEVER THE INPUT: true; the input reads as it did. -/
def ristrettoReadsSumsSpec : ChangeSpec := { name := "ristrettoReadsSums", fn := fun _ => fun
  | [d1, d2] => { results := [.lit (.bool true)], args := [d1, d2] }
  | _ => none }
def ristrettoReadsSumsRow : OpenClaim := { program := "ytkmlepkmhpigeaa", sum := "9853c8a622ef9468e8081f3425341b660cbc680869c9449991cc5a880651d02a", func := "opaline/opalinelaw08.RistrettoReadsSums", spec := "ristrettoReadsSums", inPlace := ["math/bits.Add64", "math/bits.Sub64"], unfollowed := true, recurses := true, named := ["math/bits.divideError", "math/bits.overflowError"], apart := false }
def RistrettoReadsSumsSaid : Prop := ristrettoReadsSumsRow.holds Try.pinned (OpenSpec.ofChange ristrettoReadsSumsSpec)

/-- ITS FALSE NEIGHBOUR: 'it returns false'. Refute it at one input. -/
def ristrettoReadsSumsWrong : ChangeSpec := { name := "ristrettoReadsSums", fn := fun _ => fun
  | [d1, d2] => { results := [.lit (.bool false)], args := [d1, d2] }
  | _ => none }
def RistrettoReadsSumsWrongFalsely : Prop := ristrettoReadsSumsRow.holds Try.pinned (OpenSpec.ofChange ristrettoReadsSumsWrong)

/-- 'opalinelaw08.RistrettoLaws': WHATEVER THE INPUT: true; the input reads as it did. -/
def ristrettoLawsSpec : ChangeSpec := { name := "ristrettoLaws", fn := fun _ => fun
  | [d1, d2, d3] => { results := [.lit (.bool true)], args := [d1, d2, d3] }
  | _ => none }
def ristrettoLawsRow : OpenClaim := { program := "ytkmlepkmhpigeaa", sum := "9853c8a622ef9468e8081f3425341b660cbc680869c9449991cc5a880651d02a", func := "opaline/opalinelaw08.RistrettoLaws", spec := "ristrettoLaws", inPlace := ["math/bits.Add64", "math/bits.Sub64"], unfollowed := true, recurses := true, named := ["math/bits.divideError", "math/bits.overflowError"], apart := false }
def RistrettoLawsSaid : Prop := ristrettoLawsRow.holds Try.pinned (OpenSpec.ofChange ristrettoLawsSpec)

/-- ITS FALSE NEIGHBOUR: 'it returns false'. Refute it at one input. -/
def ristrettoLawsWrong : ChangeSpec := { name := "ristrettoLaws", fn := fun _ => fun
  | [d1, d2, d3] => { results := [.lit (.bool false)], args := [d1, d2, d3] }
  | _ => none }
def RistrettoLawsWrongFalsely : Prop := ristrettoLawsRow.holds Try.pinned (OpenSpec.ofChange ristrettoLawsWrong)

/-- 'opalinelaw08.RistrettoTorsion': WHATEVER THE INPUT: true; the input reads as it did. -/
def ristrettoTorsionSpec : ChangeSpec := { name := "ristrettoTorsion", fn := fun _ => fun
  | [d1, d2] => { results := [.lit (.bool true)], args := [d1, d2] }
  | _ => none }
def ristrettoTorsionRow : OpenClaim := { program := "ytkmlepkmhpigeaa", sum := "9853c8a622ef9468e8081f3425341b660cbc680869c9449991cc5a880651d02a", func := "opaline/opalinelaw08.RistrettoTorsion", spec := "ristrettoTorsion", inPlace := ["math/bits.Add64", "math/bits.Sub64"], unfollowed := true, recurses := true, named := ["math/bits.divideError", "math/bits.overflowError"], apart := false }
def RistrettoTorsionSaid : Prop := ristrettoTorsionRow.holds Try.pinned (OpenSpec.ofChange ristrettoTorsionSpec)

/-- ITS FALSE NEIGHBOUR: 'it returns false'. Refute it at one input. -/
def ristrettoTorsionWrong : ChangeSpec := { name := "ristrettoTorsion", fn := fun _ => fun
  | [d1, d2] => { results := [.lit (.bool false)], args := [d1, d2] }
  | _ => none }
def RistrettoTorsionWrongFalsely : Prop := ristrettoTorsionRow.holds Try.pinned (OpenSpec.ofChange ristrettoTorsionWrong)

/- THE SECOND FORM. 'bulk': how many values and letters a reading holds, each counted each time it is reached (what is shared counts as often as it is met; a slice's spare places count too). A statement '..UptoSaid' is the law's where the arguments, and the package variables that the reading takes, are together of bulk at most 1048576: NARROWER than '..Said'. Prove '..Said' where nothing that the law and all that it calls make is longer than what came in: it says more and counts as full. Else prove '..UptoSaid'. A law counts once. -/
mutual
def uptoBulk {H : Type} : DataW H → Nat
  | .lit (.string bytes) => bytes.length + 1
  | .lit _ => 1
  | .nil => 1
  | .ptr d => uptoBulk d + 1
  | .slice elems spare => uptoBulkAll elems + uptoBulkAll spare + 1
  | .agg parts => uptoBulkAll parts + 1
  | .iface _ d => uptoBulk d + 1
  | .map entries => uptoBulkEntries entries + 1
  | .held _ => 1
def uptoBulkAll {H : Type} : List (DataW H) → Nat
  | [] => 0
  | d :: r => uptoBulk d + uptoBulkAll r
def uptoBulkEntries {H : Type} : List (Lit × DataW H) → Nat
  | [] => 0
  | x :: r => uptoBulkEntry x + uptoBulkEntries r
def uptoBulkEntry {H : Type} : Lit × DataW H → Nat
  | (.string bytes, d) => bytes.length + uptoBulk d + 1
  | (_, d) => uptoBulk d + 1
 end
def uptoSmall : (H : Type) → List (DataW H) → Bool := fun _ ds => decide (uptoBulkAll ds ≤ 1048576)
def OpenSpec.upto (s : _root_.Go.ChangeSpec) : _root_.Go.OpenSpec := { _root_.Go.OpenSpec.ofChange s with cond := some uptoSmall }

/-- 'opalinelaw07.CurveOrder', WHERE WHAT IT READS IS OF BULK AT MOST 1048576: true; the input reads as it did. -/
def curveOrderUptoRow : OpenClaim := { program := "ytkmlepkmhpigeaa", sum := "9853c8a622ef9468e8081f3425341b660cbc680869c9449991cc5a880651d02a", func := "opaline/opalinelaw07.CurveOrder", spec := "curveOrder", inPlace := ["math/bits.Add64", "math/bits.Sub64"], unfollowed := true, recurses := true, named := ["math/bits.divideError", "math/bits.overflowError"], apart := false, narrowed := true }
def CurveOrderUptoSaid : Prop := curveOrderUptoRow.holds Try.pinned (OpenSpec.upto curveOrderSpec)

/-- 'opalinelaw07.CurveAt', WHERE WHAT IT READS IS OF BULK AT MOST 1048576: true; the input reads as it did. -/
def curveAtUptoRow : OpenClaim := { program := "ytkmlepkmhpigeaa", sum := "9853c8a622ef9468e8081f3425341b660cbc680869c9449991cc5a880651d02a", func := "opaline/opalinelaw07.CurveAt", spec := "curveAt", inPlace := ["math/bits.Add64", "math/bits.Sub64"], unfollowed := true, recurses := true, named := ["math/bits.divideError", "math/bits.overflowError"], apart := false, narrowed := true }
def CurveAtUptoSaid : Prop := curveAtUptoRow.holds Try.pinned (OpenSpec.upto curveAtSpec)

/-- 'opalinelaw07.CurveLaws', WHERE WHAT IT READS IS OF BULK AT MOST 1048576: true; the input reads as it did. -/
def curveLawsUptoRow : OpenClaim := { program := "ytkmlepkmhpigeaa", sum := "9853c8a622ef9468e8081f3425341b660cbc680869c9449991cc5a880651d02a", func := "opaline/opalinelaw07.CurveLaws", spec := "curveLaws", inPlace := ["math/bits.Add64", "math/bits.Sub64"], unfollowed := true, recurses := true, named := ["math/bits.divideError", "math/bits.overflowError"], apart := false, narrowed := true }
def CurveLawsUptoSaid : Prop := curveLawsUptoRow.holds Try.pinned (OpenSpec.upto curveLawsSpec)

/-- 'opalinelaw08.RistrettoReadsSums', WHERE WHAT IT READS IS OF BULK AT MOST 1048576: true; the input reads as it did. -/
def ristrettoReadsSumsUptoRow : OpenClaim := { program := "ytkmlepkmhpigeaa", sum := "9853c8a622ef9468e8081f3425341b660cbc680869c9449991cc5a880651d02a", func := "opaline/opalinelaw08.RistrettoReadsSums", spec := "ristrettoReadsSums", inPlace := ["math/bits.Add64", "math/bits.Sub64"], unfollowed := true, recurses := true, named := ["math/bits.divideError", "math/bits.overflowError"], apart := false, narrowed := true }
def RistrettoReadsSumsUptoSaid : Prop := ristrettoReadsSumsUptoRow.holds Try.pinned (OpenSpec.upto ristrettoReadsSumsSpec)

/-- 'opalinelaw08.RistrettoLaws', WHERE WHAT IT READS IS OF BULK AT MOST 1048576: true; the input reads as it did. -/
def ristrettoLawsUptoRow : OpenClaim := { program := "ytkmlepkmhpigeaa", sum := "9853c8a622ef9468e8081f3425341b660cbc680869c9449991cc5a880651d02a", func := "opaline/opalinelaw08.RistrettoLaws", spec := "ristrettoLaws", inPlace := ["math/bits.Add64", "math/bits.Sub64"], unfollowed := true, recurses := true, named := ["math/bits.divideError", "math/bits.overflowError"], apart := false, narrowed := true }
def RistrettoLawsUptoSaid : Prop := ristrettoLawsUptoRow.holds Try.pinned (OpenSpec.upto ristrettoLawsSpec)

/-- 'opalinelaw08.RistrettoTorsion', WHERE WHAT IT READS IS OF BULK AT MOST 1048576: true; the input reads as it did. -/
def ristrettoTorsionUptoRow : OpenClaim := { program := "ytkmlepkmhpigeaa", sum := "9853c8a622ef9468e8081f3425341b660cbc680869c9449991cc5a880651d02a", func := "opaline/opalinelaw08.RistrettoTorsion", spec := "ristrettoTorsion", inPlace := ["math/bits.Add64", "math/bits.Sub64"], unfollowed := true, recurses := true, named := ["math/bits.divideError", "math/bits.overflowError"], apart := false, narrowed := true }
def RistrettoTorsionUptoSaid : Prop := ristrettoTorsionUptoRow.holds Try.pinned (OpenSpec.upto ristrettoTorsionSpec)

end Rows
end Go.Proofs.Ytkmlepkmhpigeaa
