/-
  No cell of these rows narrows 'for every input' (looked for: loops, veiled, ifaces, maps, wideKeys, modest, calm, conditions, laid).
  DERIVED. THE GIVEN ROWS OF THIS SEAT. 11 by the template 'for every input the law returns true; each argument reads behind the call as it read before'; 0 by the template 'total and deterministic' (their statements: YtdhcaghdhaeebaaTotals.lean).
  GIVEN WITH THE SEED: the statements are not yours to turn. If you find one false, say at which input.
  Laid BY PROGRAM, IN A SANDBOX (cutbox-rows.mjs): the forced cells as the released guide's own fill.sh prints them over the translation 158376f8e9070638… (all of the seat's roots in one cut). By AI agents, Wed Nov 11 2026. No macro, syntax, notation, axiom, sorry.
-/
import Derived.Test.YtdhcaghdhaeebaaChecked
import GoSem.Claim
import GoSem.ClaimJoined
import GoSem.ClaimMapViews
import Derived.JoinedTies
import Derived.KernelRfl
namespace Go.Proofs.Ytdhcaghdhaeebaa
/- THE CELL 'sum', in the pinned program and in every row, IS THE sha256 OF THE DUMP (.gsa) THAT YtdhcaghdhaeebaaProg.lean LOADS. Nothing in Lean hashes anything: it is a label: what it is worth is what the hold of that sum in a sandbox is worth. -/
noncomputable def Try.pinned : Pinned := { name := "ytdhcaghdhaeebaa", sum := "158376f8e90706387f18e2639f58d91c8b26b9e2682b467a318886584531d473", checked := Try.checked }
namespace Rows
def none {H : Type} : Left H := { results := [], args := [] }

/-- 'opalinelaw11.WireWrites': WHATEVER THE INPUT: true; the input reads as it did. -/
def wireWritesSpec : ChangeSpec := { name := "wireWrites", fn := fun _ => fun
  | [d1, d2] => { results := [.lit (.bool true)], args := [d1, d2] }
  | _ => none }
def wireWritesRow : OpenClaim := { program := "ytdhcaghdhaeebaa", sum := "158376f8e90706387f18e2639f58d91c8b26b9e2682b467a318886584531d473", func := "opaline/opalinelaw11.WireWrites", spec := "wireWrites", inPlace := ["internal/abi.NoEscape", "internal/bytealg.MakeNoZero"], apart := false }
def WireWritesSaid : Prop := wireWritesRow.holds Try.pinned (OpenSpec.ofChange wireWritesSpec)

/-- ITS FALSE NEIGHBOUR: 'it returns false'. Refute it at one input. -/
def wireWritesWrong : ChangeSpec := { name := "wireWrites", fn := fun _ => fun
  | [d1, d2] => { results := [.lit (.bool false)], args := [d1, d2] }
  | _ => none }
def WireWritesWrongFalsely : Prop := wireWritesRow.holds Try.pinned (OpenSpec.ofChange wireWritesWrong)

/-- 'opalinelaw11.WireCuts': WHATEVER THE INPUT: true; the input reads as it did. -/
def wireCutsSpec : ChangeSpec := { name := "wireCuts", fn := fun _ => fun
  | [d1, d2, d3] => { results := [.lit (.bool true)], args := [d1, d2, d3] }
  | _ => none }
def wireCutsRow : OpenClaim := { program := "ytdhcaghdhaeebaa", sum := "158376f8e90706387f18e2639f58d91c8b26b9e2682b467a318886584531d473", func := "opaline/opalinelaw11.WireCuts", spec := "wireCuts", inPlace := ["internal/abi.NoEscape", "internal/bytealg.MakeNoZero"], apart := false }
def WireCutsSaid : Prop := wireCutsRow.holds Try.pinned (OpenSpec.ofChange wireCutsSpec)

/-- ITS FALSE NEIGHBOUR: 'it returns false'. Refute it at one input. -/
def wireCutsWrong : ChangeSpec := { name := "wireCuts", fn := fun _ => fun
  | [d1, d2, d3] => { results := [.lit (.bool false)], args := [d1, d2, d3] }
  | _ => none }
def WireCutsWrongFalsely : Prop := wireCutsRow.holds Try.pinned (OpenSpec.ofChange wireCutsWrong)

/-- 'opalinelaw11.WireReads': WHATEVER THE INPUT: true; the input reads as it did. -/
def wireReadsSpec : ChangeSpec := { name := "wireReads", fn := fun _ => fun
  | [d] => { results := [.lit (.bool true)], args := [d] }
  | _ => none }
def wireReadsRow : OpenClaim := { program := "ytdhcaghdhaeebaa", sum := "158376f8e90706387f18e2639f58d91c8b26b9e2682b467a318886584531d473", func := "opaline/opalinelaw11.WireReads", spec := "wireReads", inPlace := ["internal/abi.NoEscape", "internal/bytealg.MakeNoZero"], unfollowed := true, recurses := true, apart := false }
def WireReadsSaid : Prop := wireReadsRow.holds Try.pinned (OpenSpec.ofChange wireReadsSpec)

/-- ITS FALSE NEIGHBOUR: 'it returns false'. Refute it at one input. -/
def wireReadsWrong : ChangeSpec := { name := "wireReads", fn := fun _ => fun
  | [d] => { results := [.lit (.bool false)], args := [d] }
  | _ => none }
def WireReadsWrongFalsely : Prop := wireReadsRow.holds Try.pinned (OpenSpec.ofChange wireReadsWrong)

/-- 'opalinelaw01.LimbTexts': WHATEVER THE INPUT: true; the input reads as it did. -/
def limbTextsSpec : ChangeSpec := { name := "limbTexts", fn := fun _ => fun
  | [d1, d2, d3] => { results := [.lit (.bool true)], args := [d1, d2, d3] }
  | _ => none }
def limbTextsRow : OpenClaim := { program := "ytdhcaghdhaeebaa", sum := "158376f8e90706387f18e2639f58d91c8b26b9e2682b467a318886584531d473", func := "opaline/opalinelaw01.LimbTexts", spec := "limbTexts", inPlace := ["math/bits.Add64"], unfollowed := true, recurses := true, named := ["math/bits.divideError", "math/bits.overflowError"], apart := false }
def LimbTextsSaid : Prop := limbTextsRow.holds Try.pinned (OpenSpec.ofChange limbTextsSpec)

/-- ITS FALSE NEIGHBOUR: 'it returns false'. Refute it at one input. -/
def limbTextsWrong : ChangeSpec := { name := "limbTexts", fn := fun _ => fun
  | [d1, d2, d3] => { results := [.lit (.bool false)], args := [d1, d2, d3] }
  | _ => none }
def LimbTextsWrongFalsely : Prop := limbTextsRow.holds Try.pinned (OpenSpec.ofChange limbTextsWrong)

/-- 'opalinelaw01.LimbShifts': WHATEVER THE INPUT: true; the input reads as it did. -/
def limbShiftsSpec : ChangeSpec := { name := "limbShifts", fn := fun _ => fun
  | [d1, d2, d3] => { results := [.lit (.bool true)], args := [d1, d2, d3] }
  | _ => none }
def limbShiftsRow : OpenClaim := { program := "ytdhcaghdhaeebaa", sum := "158376f8e90706387f18e2639f58d91c8b26b9e2682b467a318886584531d473", func := "opaline/opalinelaw01.LimbShifts", spec := "limbShifts", inPlace := ["math/bits.Add64"], unfollowed := true, recurses := true, named := ["math/bits.divideError", "math/bits.overflowError"], apart := false }
def LimbShiftsSaid : Prop := limbShiftsRow.holds Try.pinned (OpenSpec.ofChange limbShiftsSpec)

/-- ITS FALSE NEIGHBOUR: 'it returns false'. Refute it at one input. -/
def limbShiftsWrong : ChangeSpec := { name := "limbShifts", fn := fun _ => fun
  | [d1, d2, d3] => { results := [.lit (.bool false)], args := [d1, d2, d3] }
  | _ => none }
def LimbShiftsWrongFalsely : Prop := limbShiftsRow.holds Try.pinned (OpenSpec.ofChange limbShiftsWrong)

/-- 'opalinelaw01.LimbReckons': WHATEVER THE INPUT: true; the input reads as it did. -/
def limbReckonsSpec : ChangeSpec := { name := "limbReckons", fn := fun _ => fun
  | [d1, d2] => { results := [.lit (.bool true)], args := [d1, d2] }
  | _ => none }
def limbReckonsRow : OpenClaim := { program := "ytdhcaghdhaeebaa", sum := "158376f8e90706387f18e2639f58d91c8b26b9e2682b467a318886584531d473", func := "opaline/opalinelaw01.LimbReckons", spec := "limbReckons", inPlace := ["math/bits.Add64", "math/bits.Sub64"], unfollowed := true, recurses := true, named := ["math/bits.divideError", "math/bits.overflowError"], apart := false }
def LimbReckonsSaid : Prop := limbReckonsRow.holds Try.pinned (OpenSpec.ofChange limbReckonsSpec)

/-- ITS FALSE NEIGHBOUR: 'it returns false'. Refute it at one input. -/
def limbReckonsWrong : ChangeSpec := { name := "limbReckons", fn := fun _ => fun
  | [d1, d2] => { results := [.lit (.bool false)], args := [d1, d2] }
  | _ => none }
def LimbReckonsWrongFalsely : Prop := limbReckonsRow.holds Try.pinned (OpenSpec.ofChange limbReckonsWrong)

/-- 'opalinelaw01.LimbLaws': WHATEVER THE INPUT: true; the input reads as it did. -/
def limbLawsSpec : ChangeSpec := { name := "limbLaws", fn := fun _ => fun
  | [d1, d2] => { results := [.lit (.bool true)], args := [d1, d2] }
  | _ => none }
def limbLawsRow : OpenClaim := { program := "ytdhcaghdhaeebaa", sum := "158376f8e90706387f18e2639f58d91c8b26b9e2682b467a318886584531d473", func := "opaline/opalinelaw01.LimbLaws", spec := "limbLaws", inPlace := ["math/bits.Add64", "math/bits.Sub64"], unfollowed := true, recurses := true, named := ["math/bits.divideError", "math/bits.overflowError"], apart := false }
def LimbLawsSaid : Prop := limbLawsRow.holds Try.pinned (OpenSpec.ofChange limbLawsSpec)

/-- ITS FALSE NEIGHBOUR: 'it returns false'. Refute it at one input. -/
def limbLawsWrong : ChangeSpec := { name := "limbLaws", fn := fun _ => fun
  | [d1, d2] => { results := [.lit (.bool false)], args := [d1, d2] }
  | _ => none }
def LimbLawsWrongFalsely : Prop := limbLawsRow.holds Try.pinned (OpenSpec.ofChange limbLawsWrong)

/-- 'opalinelaw02.ShaKeys': WHATEVER THE INPUT: true; the input reads as it did. -/
def shaKeysSpec : ChangeSpec := { name := "shaKeys", fn := fun _ => fun
  | [] => { results := [.lit (.bool true)], args := [] }
  | _ => none }
def shaKeysRow : OpenClaim := { program := "ytdhcaghdhaeebaa", sum := "158376f8e90706387f18e2639f58d91c8b26b9e2682b467a318886584531d473", func := "opaline/opalinelaw02.ShaKeys", spec := "shaKeys", inPlace := ["internal/abi.NoEscape", "internal/bytealg.MakeNoZero"], apart := false }
def ShaKeysSaid : Prop := shaKeysRow.holds Try.pinned (OpenSpec.ofChange shaKeysSpec)

/-- ITS FALSE NEIGHBOUR: 'it returns false'. Refute it at one input. -/
def shaKeysWrong : ChangeSpec := { name := "shaKeys", fn := fun _ => fun
  | [] => { results := [.lit (.bool false)], args := [] }
  | _ => none }
def ShaKeysWrongFalsely : Prop := shaKeysRow.holds Try.pinned (OpenSpec.ofChange shaKeysWrong)

/-- 'opalinelaw02.ShaCounts': WHATEVER THE INPUT: true; the input reads as it did. -/
def shaCountsSpec : ChangeSpec := { name := "shaCounts", fn := fun _ => fun
  | [d1, d2, d3, d4] => { results := [.lit (.bool true)], args := [d1, d2, d3, d4] }
  | _ => none }
def shaCountsRow : OpenClaim := { program := "ytdhcaghdhaeebaa", sum := "158376f8e90706387f18e2639f58d91c8b26b9e2682b467a318886584531d473", func := "opaline/opalinelaw02.ShaCounts", spec := "shaCounts", inPlace := ["internal/abi.NoEscape", "internal/bytealg.MakeNoZero"], apart := false }
def ShaCountsSaid : Prop := shaCountsRow.holds Try.pinned (OpenSpec.ofChange shaCountsSpec)

/-- ITS FALSE NEIGHBOUR: 'it returns false'. Refute it at one input. -/
def shaCountsWrong : ChangeSpec := { name := "shaCounts", fn := fun _ => fun
  | [d1, d2, d3, d4] => { results := [.lit (.bool false)], args := [d1, d2, d3, d4] }
  | _ => none }
def ShaCountsWrongFalsely : Prop := shaCountsRow.holds Try.pinned (OpenSpec.ofChange shaCountsWrong)

/-- 'opalinelaw03.HmacStretches': WHATEVER THE INPUT: true; the input reads as it did. -/
def hmacStretchesSpec : ChangeSpec := { name := "hmacStretches", fn := fun _ => fun
  | [d1, d2] => { results := [.lit (.bool true)], args := [d1, d2] }
  | _ => none }
def hmacStretchesRow : OpenClaim := { program := "ytdhcaghdhaeebaa", sum := "158376f8e90706387f18e2639f58d91c8b26b9e2682b467a318886584531d473", func := "opaline/opalinelaw03.HmacStretches", spec := "hmacStretches", inPlace := ["internal/abi.NoEscape", "internal/bytealg.MakeNoZero"], unfollowed := true, recurses := true, apart := false }
def HmacStretchesSaid : Prop := hmacStretchesRow.holds Try.pinned (OpenSpec.ofChange hmacStretchesSpec)

/-- ITS FALSE NEIGHBOUR: 'it returns false'. Refute it at one input. -/
def hmacStretchesWrong : ChangeSpec := { name := "hmacStretches", fn := fun _ => fun
  | [d1, d2] => { results := [.lit (.bool false)], args := [d1, d2] }
  | _ => none }
def HmacStretchesWrongFalsely : Prop := hmacStretchesRow.holds Try.pinned (OpenSpec.ofChange hmacStretchesWrong)

/-- 'opalinelaw02.ShaTexts': WHATEVER THE INPUT: true; the input reads as it did. -/
def shaTextsSpec : ChangeSpec := { name := "shaTexts", fn := fun _ => fun
  | [d1, d2] => { results := [.lit (.bool true)], args := [d1, d2] }
  | _ => none }
def shaTextsRow : OpenClaim := { program := "ytdhcaghdhaeebaa", sum := "158376f8e90706387f18e2639f58d91c8b26b9e2682b467a318886584531d473", func := "opaline/opalinelaw02.ShaTexts", spec := "shaTexts", inPlace := ["internal/abi.NoEscape", "internal/bytealg.MakeNoZero", "internal/bytealg.IndexByteString"], apart := false }
def ShaTextsSaid : Prop := shaTextsRow.holds Try.pinned (OpenSpec.ofChange shaTextsSpec)

/-- ITS FALSE NEIGHBOUR: 'it returns false'. Refute it at one input. -/
def shaTextsWrong : ChangeSpec := { name := "shaTexts", fn := fun _ => fun
  | [d1, d2] => { results := [.lit (.bool false)], args := [d1, d2] }
  | _ => none }
def ShaTextsWrongFalsely : Prop := shaTextsRow.holds Try.pinned (OpenSpec.ofChange shaTextsWrong)

/- THE SECOND FORM. 'bulk': how many values and letters a reading holds, each counted each time it is reached (what is shared counts as often as it is met; a slice's spare places count too). A statement '..UptoSaid' is the law's where the arguments, and the package variables that the reading takes, are together of bulk at most 1048576: NARROWER than '..Said'. Prove '..Said' where nothing that the law and all that it calls make is longer than what came in: it says more and counts as full. Else prove '..UptoSaid'. A law counts once. -/
mutual
def uptoBulk {H : Type} : DataW H → Nat
  | .lit (.string bytes) => bytes.length + 1
  | .lit _ => 1
  | .nil => 1
  | .ptr d => uptoBulk d + 1
  | .slice elems spare => uptoBulkAll elems + uptoBulkAll spare + 1
  | .agg parts => uptoBulkAll parts + 1
  | .iface _ d => uptoBulk d + 1
  | .map entries => uptoBulkEntries entries + 1
  | .held _ => 1
def uptoBulkAll {H : Type} : List (DataW H) → Nat
  | [] => 0
  | d :: r => uptoBulk d + uptoBulkAll r
def uptoBulkEntries {H : Type} : List (Lit × DataW H) → Nat
  | [] => 0
  | x :: r => uptoBulkEntry x + uptoBulkEntries r
def uptoBulkEntry {H : Type} : Lit × DataW H → Nat
  | (.string bytes, d) => bytes.length + uptoBulk d + 1
  | (_, d) => uptoBulk d + 1
 end
def uptoSmall : (H : Type) → List (DataW H) → Bool := fun _ ds => decide (uptoBulkAll ds ≤ 1048576)
def OpenSpec.upto (s : _root_.Go.ChangeSpec) : _root_.Go.OpenSpec := { _root_.Go.OpenSpec.ofChange s with cond := some uptoSmall }

/-- 'opalinelaw11.WireWrites', WHERE WHAT IT READS IS OF BULK AT MOST 1048576: true; the input reads as it did. -/
def wireWritesUptoRow : OpenClaim := { program := "ytdhcaghdhaeebaa", sum := "158376f8e90706387f18e2639f58d91c8b26b9e2682b467a318886584531d473", func := "opaline/opalinelaw11.WireWrites", spec := "wireWrites", inPlace := ["internal/abi.NoEscape", "internal/bytealg.MakeNoZero"], apart := false, narrowed := true }
def WireWritesUptoSaid : Prop := wireWritesUptoRow.holds Try.pinned (OpenSpec.upto wireWritesSpec)

/-- 'opalinelaw11.WireCuts', WHERE WHAT IT READS IS OF BULK AT MOST 1048576: true; the input reads as it did. -/
def wireCutsUptoRow : OpenClaim := { program := "ytdhcaghdhaeebaa", sum := "158376f8e90706387f18e2639f58d91c8b26b9e2682b467a318886584531d473", func := "opaline/opalinelaw11.WireCuts", spec := "wireCuts", inPlace := ["internal/abi.NoEscape", "internal/bytealg.MakeNoZero"], apart := false, narrowed := true }
def WireCutsUptoSaid : Prop := wireCutsUptoRow.holds Try.pinned (OpenSpec.upto wireCutsSpec)

/-- 'opalinelaw11.WireReads', WHERE WHAT IT READS IS OF BULK AT MOST 1048576: true; the input reads as it did. -/
def wireReadsUptoRow : OpenClaim := { program := "ytdhcaghdhaeebaa", sum := "158376f8e90706387f18e2639f58d91c8b26b9e2682b467a318886584531d473", func := "opaline/opalinelaw11.WireReads", spec := "wireReads", inPlace := ["internal/abi.NoEscape", "internal/bytealg.MakeNoZero"], unfollowed := true, recurses := true, apart := false, narrowed := true }
def WireReadsUptoSaid : Prop := wireReadsUptoRow.holds Try.pinned (OpenSpec.upto wireReadsSpec)

/-- 'opalinelaw01.LimbTexts', WHERE WHAT IT READS IS OF BULK AT MOST 1048576: true; the input reads as it did. -/
def limbTextsUptoRow : OpenClaim := { program := "ytdhcaghdhaeebaa", sum := "158376f8e90706387f18e2639f58d91c8b26b9e2682b467a318886584531d473", func := "opaline/opalinelaw01.LimbTexts", spec := "limbTexts", inPlace := ["math/bits.Add64"], unfollowed := true, recurses := true, named := ["math/bits.divideError", "math/bits.overflowError"], apart := false, narrowed := true }
def LimbTextsUptoSaid : Prop := limbTextsUptoRow.holds Try.pinned (OpenSpec.upto limbTextsSpec)

/-- 'opalinelaw01.LimbShifts', WHERE WHAT IT READS IS OF BULK AT MOST 1048576: true; the input reads as it did. -/
def limbShiftsUptoRow : OpenClaim := { program := "ytdhcaghdhaeebaa", sum := "158376f8e90706387f18e2639f58d91c8b26b9e2682b467a318886584531d473", func := "opaline/opalinelaw01.LimbShifts", spec := "limbShifts", inPlace := ["math/bits.Add64"], unfollowed := true, recurses := true, named := ["math/bits.divideError", "math/bits.overflowError"], apart := false, narrowed := true }
def LimbShiftsUptoSaid : Prop := limbShiftsUptoRow.holds Try.pinned (OpenSpec.upto limbShiftsSpec)

/-- 'opalinelaw01.LimbReckons', WHERE WHAT IT READS IS OF BULK AT MOST 1048576: true; the input reads as it did. -/
def limbReckonsUptoRow : OpenClaim := { program := "ytdhcaghdhaeebaa", sum := "158376f8e90706387f18e2639f58d91c8b26b9e2682b467a318886584531d473", func := "opaline/opalinelaw01.LimbReckons", spec := "limbReckons", inPlace := ["math/bits.Add64", "math/bits.Sub64"], unfollowed := true, recurses := true, named := ["math/bits.divideError", "math/bits.overflowError"], apart := false, narrowed := true }
def LimbReckonsUptoSaid : Prop := limbReckonsUptoRow.holds Try.pinned (OpenSpec.upto limbReckonsSpec)

/-- 'opalinelaw01.LimbLaws', WHERE WHAT IT READS IS OF BULK AT MOST 1048576: true; the input reads as it did. -/
def limbLawsUptoRow : OpenClaim := { program := "ytdhcaghdhaeebaa", sum := "158376f8e90706387f18e2639f58d91c8b26b9e2682b467a318886584531d473", func := "opaline/opalinelaw01.LimbLaws", spec := "limbLaws", inPlace := ["math/bits.Add64", "math/bits.Sub64"], unfollowed := true, recurses := true, named := ["math/bits.divideError", "math/bits.overflowError"], apart := false, narrowed := true }
def LimbLawsUptoSaid : Prop := limbLawsUptoRow.holds Try.pinned (OpenSpec.upto limbLawsSpec)

/-- 'opalinelaw02.ShaKeys', WHERE WHAT IT READS IS OF BULK AT MOST 1048576: true; the input reads as it did. -/
def shaKeysUptoRow : OpenClaim := { program := "ytdhcaghdhaeebaa", sum := "158376f8e90706387f18e2639f58d91c8b26b9e2682b467a318886584531d473", func := "opaline/opalinelaw02.ShaKeys", spec := "shaKeys", inPlace := ["internal/abi.NoEscape", "internal/bytealg.MakeNoZero"], apart := false, narrowed := true }
def ShaKeysUptoSaid : Prop := shaKeysUptoRow.holds Try.pinned (OpenSpec.upto shaKeysSpec)

/-- 'opalinelaw02.ShaCounts', WHERE WHAT IT READS IS OF BULK AT MOST 1048576: true; the input reads as it did. -/
def shaCountsUptoRow : OpenClaim := { program := "ytdhcaghdhaeebaa", sum := "158376f8e90706387f18e2639f58d91c8b26b9e2682b467a318886584531d473", func := "opaline/opalinelaw02.ShaCounts", spec := "shaCounts", inPlace := ["internal/abi.NoEscape", "internal/bytealg.MakeNoZero"], apart := false, narrowed := true }
def ShaCountsUptoSaid : Prop := shaCountsUptoRow.holds Try.pinned (OpenSpec.upto shaCountsSpec)

/-- 'opalinelaw03.HmacStretches', WHERE WHAT IT READS IS OF BULK AT MOST 1048576: true; the input reads as it did. -/
def hmacStretchesUptoRow : OpenClaim := { program := "ytdhcaghdhaeebaa", sum := "158376f8e90706387f18e2639f58d91c8b26b9e2682b467a318886584531d473", func := "opaline/opalinelaw03.HmacStretches", spec := "hmacStretches", inPlace := ["internal/abi.NoEscape", "internal/bytealg.MakeNoZero"], unfollowed := true, recurses := true, apart := false, narrowed := true }
def HmacStretchesUptoSaid : Prop := hmacStretchesUptoRow.holds Try.pinned (OpenSpec.upto hmacStretchesSpec)

/-- 'opalinelaw02.ShaTexts', WHERE WHAT IT READS IS OF BULK AT MOST 1048576: true; the input reads as it did. -/
def shaTextsUptoRow : OpenClaim := { program := "ytdhcaghdhaeebaa", sum := "158376f8e90706387f18e2639f58d91c8b26b9e2682b467a318886584531d473", func := "opaline/opalinelaw02.ShaTexts", spec := "shaTexts", inPlace := ["internal/abi.NoEscape", "internal/bytealg.MakeNoZero", "internal/bytealg.IndexByteString"], apart := false, narrowed := true }
def ShaTextsUptoSaid : Prop := shaTextsUptoRow.holds Try.pinned (OpenSpec.upto shaTextsSpec)

end Rows
end Go.Proofs.Ytdhcaghdhaeebaa
