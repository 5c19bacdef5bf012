/-
  No cell of these rows narrows 'for every input' (looked for: loops, veiled, ifaces, maps, wideKeys, modest, calm, conditions, laid).
  DERIVED. THE GIVEN ROWS OF THIS SEAT. 13 by the template 'for every input the law returns true; each argument reads behind the call as it read before'; 0 by the template 'total and deterministic' (their statements: YtadmldpphgfiaaaTotals.lean).
  GIVEN WITH THE SEED: the statements are not yours to turn. If you find one false, say at which input.
  Laid BY PROGRAM, IN A SANDBOX (cutbox-rows.mjs): the forced cells as the released guide's own fill.sh prints them over the translation 4bdc246ec583c85c… (all of the seat's roots in one cut). By AI agents, Wed Nov 11 2026. No macro, syntax, notation, axiom, sorry.
-/
import Derived.Test.YtadmldpphgfiaaaChecked
import GoSem.Claim
import GoSem.ClaimJoined
import GoSem.ClaimMapViews
import Derived.JoinedTies
import Derived.KernelRfl
namespace Go.Proofs.Ytadmldpphgfiaaa
/- THE CELL 'sum', in the pinned program and in every row, IS THE sha256 OF THE DUMP (.gsa) THAT YtadmldpphgfiaaaProg.lean LOADS. Nothing in Lean hashes anything: it is a label: what it is worth is what the hold of that sum in a sandbox is worth. -/
noncomputable def Try.pinned : Pinned := { name := "ytadmldpphgfiaaa", sum := "4bdc246ec583c85c93415de76dd5acbd871e4e3414c8a81cb06bd61b48158f83", checked := Try.checked }
namespace Rows
def none {H : Type} : Left H := { results := [], args := [] }

/-- 'opalinelaw04.XmdXors': WHATEVER THE INPUT: true; the input reads as it did. -/
def xmdXorsSpec : ChangeSpec := { name := "xmdXors", fn := fun _ => fun
  | [d1, d2] => { results := [.lit (.bool true)], args := [d1, d2] }
  | _ => none }
def xmdXorsRow : OpenClaim := { program := "ytadmldpphgfiaaa", sum := "4bdc246ec583c85c93415de76dd5acbd871e4e3414c8a81cb06bd61b48158f83", func := "opaline/opalinelaw04.XmdXors", spec := "xmdXors", inPlace := ["internal/abi.NoEscape", "internal/bytealg.MakeNoZero"], unfollowed := true, recurses := true, apart := false }
def XmdXorsSaid : Prop := xmdXorsRow.holds Try.pinned (OpenSpec.ofChange xmdXorsSpec)

/-- ITS FALSE NEIGHBOUR: 'it returns false'. Refute it at one input. -/
def xmdXorsWrong : ChangeSpec := { name := "xmdXors", fn := fun _ => fun
  | [d1, d2] => { results := [.lit (.bool false)], args := [d1, d2] }
  | _ => none }
def XmdXorsWrongFalsely : Prop := xmdXorsRow.holds Try.pinned (OpenSpec.ofChange xmdXorsWrong)

/-- 'opalinelaw04.XmdParts': WHATEVER THE INPUT: true; the input reads as it did. -/
def xmdPartsSpec : ChangeSpec := { name := "xmdParts", fn := fun _ => fun
  | [d1, d2, d3, d4] => { results := [.lit (.bool true)], args := [d1, d2, d3, d4] }
  | _ => none }
def xmdPartsRow : OpenClaim := { program := "ytadmldpphgfiaaa", sum := "4bdc246ec583c85c93415de76dd5acbd871e4e3414c8a81cb06bd61b48158f83", func := "opaline/opalinelaw04.XmdParts", spec := "xmdParts", inPlace := ["internal/abi.NoEscape", "internal/bytealg.MakeNoZero"], unfollowed := true, recurses := true, apart := false }
def XmdPartsSaid : Prop := xmdPartsRow.holds Try.pinned (OpenSpec.ofChange xmdPartsSpec)

/-- ITS FALSE NEIGHBOUR: 'it returns false'. Refute it at one input. -/
def xmdPartsWrong : ChangeSpec := { name := "xmdParts", fn := fun _ => fun
  | [d1, d2, d3, d4] => { results := [.lit (.bool false)], args := [d1, d2, d3, d4] }
  | _ => none }
def XmdPartsWrongFalsely : Prop := xmdPartsRow.holds Try.pinned (OpenSpec.ofChange xmdPartsWrong)

/-- 'opalinelaw03.HmacExpands': WHATEVER THE INPUT: true; the input reads as it did. -/
def hmacExpandsSpec : ChangeSpec := { name := "hmacExpands", fn := fun _ => fun
  | [d1, d2, d3, d4] => { results := [.lit (.bool true)], args := [d1, d2, d3, d4] }
  | _ => none }
def hmacExpandsRow : OpenClaim := { program := "ytadmldpphgfiaaa", sum := "4bdc246ec583c85c93415de76dd5acbd871e4e3414c8a81cb06bd61b48158f83", func := "opaline/opalinelaw03.HmacExpands", spec := "hmacExpands", inPlace := ["internal/abi.NoEscape", "internal/bytealg.MakeNoZero"], unfollowed := true, recurses := true, apart := false }
def HmacExpandsSaid : Prop := hmacExpandsRow.holds Try.pinned (OpenSpec.ofChange hmacExpandsSpec)

/-- ITS FALSE NEIGHBOUR: 'it returns false'. Refute it at one input. -/
def hmacExpandsWrong : ChangeSpec := { name := "hmacExpands", fn := fun _ => fun
  | [d1, d2, d3, d4] => { results := [.lit (.bool false)], args := [d1, d2, d3, d4] }
  | _ => none }
def HmacExpandsWrongFalsely : Prop := hmacExpandsRow.holds Try.pinned (OpenSpec.ofChange hmacExpandsWrong)

/-- 'opalinelaw05.FieldParses': WHATEVER THE INPUT: true; the input reads as it did. -/
def fieldParsesSpec : ChangeSpec := { name := "fieldParses", fn := fun _ => fun
  | [d1, d2] => { results := [.lit (.bool true)], args := [d1, d2] }
  | _ => none }
def fieldParsesRow : OpenClaim := { program := "ytadmldpphgfiaaa", sum := "4bdc246ec583c85c93415de76dd5acbd871e4e3414c8a81cb06bd61b48158f83", func := "opaline/opalinelaw05.FieldParses", spec := "fieldParses", inPlace := ["math/bits.Add64", "math/bits.Sub64"], unfollowed := true, recurses := true, named := ["math/bits.divideError", "math/bits.overflowError"], apart := false }
def FieldParsesSaid : Prop := fieldParsesRow.holds Try.pinned (OpenSpec.ofChange fieldParsesSpec)

/-- ITS FALSE NEIGHBOUR: 'it returns false'. Refute it at one input. -/
def fieldParsesWrong : ChangeSpec := { name := "fieldParses", fn := fun _ => fun
  | [d1, d2] => { results := [.lit (.bool false)], args := [d1, d2] }
  | _ => none }
def FieldParsesWrongFalsely : Prop := fieldParsesRow.holds Try.pinned (OpenSpec.ofChange fieldParsesWrong)

/-- 'opalinelaw19.ChainFront': WHATEVER THE INPUT: true; the input reads as it did. -/
def chainFrontSpec : ChangeSpec := { name := "chainFront", fn := fun _ => fun
  | [d] => { results := [.lit (.bool true)], args := [d] }
  | _ => none }
def chainFrontRow : OpenClaim := { program := "ytadmldpphgfiaaa", sum := "4bdc246ec583c85c93415de76dd5acbd871e4e3414c8a81cb06bd61b48158f83", func := "opaline/opalinelaw19.ChainFront", spec := "chainFront", inPlace := ["internal/abi.NoEscape", "internal/bytealg.MakeNoZero"], apart := false }
def ChainFrontSaid : Prop := chainFrontRow.holds Try.pinned (OpenSpec.ofChange chainFrontSpec)

/-- ITS FALSE NEIGHBOUR: 'it returns false'. Refute it at one input. -/
def chainFrontWrong : ChangeSpec := { name := "chainFront", fn := fun _ => fun
  | [d] => { results := [.lit (.bool false)], args := [d] }
  | _ => none }
def ChainFrontWrongFalsely : Prop := chainFrontRow.holds Try.pinned (OpenSpec.ofChange chainFrontWrong)

/-- 'opalinelaw19.ChainTexts': WHATEVER THE INPUT: true; the input reads as it did. -/
def chainTextsSpec : ChangeSpec := { name := "chainTexts", fn := fun _ => fun
  | [d1, d2] => { results := [.lit (.bool true)], args := [d1, d2] }
  | _ => none }
def chainTextsRow : OpenClaim := { program := "ytadmldpphgfiaaa", sum := "4bdc246ec583c85c93415de76dd5acbd871e4e3414c8a81cb06bd61b48158f83", func := "opaline/opalinelaw19.ChainTexts", spec := "chainTexts", inPlace := ["internal/abi.NoEscape", "internal/bytealg.MakeNoZero"], apart := false }
def ChainTextsSaid : Prop := chainTextsRow.holds Try.pinned (OpenSpec.ofChange chainTextsSpec)

/-- ITS FALSE NEIGHBOUR: 'it returns false'. Refute it at one input. -/
def chainTextsWrong : ChangeSpec := { name := "chainTexts", fn := fun _ => fun
  | [d1, d2] => { results := [.lit (.bool false)], args := [d1, d2] }
  | _ => none }
def ChainTextsWrongFalsely : Prop := chainTextsRow.holds Try.pinned (OpenSpec.ofChange chainTextsWrong)

/-- 'opalinelaw05.FieldLaws': WHATEVER THE INPUT: true; the input reads as it did. -/
def fieldLawsSpec : ChangeSpec := { name := "fieldLaws", fn := fun _ => fun
  | [d1, d2, d3] => { results := [.lit (.bool true)], args := [d1, d2, d3] }
  | _ => none }
def fieldLawsRow : OpenClaim := { program := "ytadmldpphgfiaaa", sum := "4bdc246ec583c85c93415de76dd5acbd871e4e3414c8a81cb06bd61b48158f83", func := "opaline/opalinelaw05.FieldLaws", spec := "fieldLaws", inPlace := ["math/bits.Add64", "math/bits.Sub64"], unfollowed := true, recurses := true, named := ["math/bits.divideError", "math/bits.overflowError"], apart := false }
def FieldLawsSaid : Prop := fieldLawsRow.holds Try.pinned (OpenSpec.ofChange fieldLawsSpec)

/-- ITS FALSE NEIGHBOUR: 'it returns false'. Refute it at one input. -/
def fieldLawsWrong : ChangeSpec := { name := "fieldLaws", fn := fun _ => fun
  | [d1, d2, d3] => { results := [.lit (.bool false)], args := [d1, d2, d3] }
  | _ => none }
def FieldLawsWrongFalsely : Prop := fieldLawsRow.holds Try.pinned (OpenSpec.ofChange fieldLawsWrong)

/-- 'opalinelaw05.FieldBytes': WHATEVER THE INPUT: true; the input reads as it did. -/
def fieldBytesSpec : ChangeSpec := { name := "fieldBytes", fn := fun _ => fun
  | [d1, d2] => { results := [.lit (.bool true)], args := [d1, d2] }
  | _ => none }
def fieldBytesRow : OpenClaim := { program := "ytadmldpphgfiaaa", sum := "4bdc246ec583c85c93415de76dd5acbd871e4e3414c8a81cb06bd61b48158f83", func := "opaline/opalinelaw05.FieldBytes", spec := "fieldBytes", inPlace := ["math/bits.Add64", "math/bits.Sub64"], unfollowed := true, recurses := true, named := ["math/bits.divideError", "math/bits.overflowError"], apart := false }
def FieldBytesSaid : Prop := fieldBytesRow.holds Try.pinned (OpenSpec.ofChange fieldBytesSpec)

/-- ITS FALSE NEIGHBOUR: 'it returns false'. Refute it at one input. -/
def fieldBytesWrong : ChangeSpec := { name := "fieldBytes", fn := fun _ => fun
  | [d1, d2] => { results := [.lit (.bool false)], args := [d1, d2] }
  | _ => none }
def FieldBytesWrongFalsely : Prop := fieldBytesRow.holds Try.pinned (OpenSpec.ofChange fieldBytesWrong)

/-- 'opalinelaw05.FieldReckons': WHATEVER THE INPUT: true; the input reads as it did. -/
def fieldReckonsSpec : ChangeSpec := { name := "fieldReckons", fn := fun _ => fun
  | [d1, d2, d3] => { results := [.lit (.bool true)], args := [d1, d2, d3] }
  | _ => none }
def fieldReckonsRow : OpenClaim := { program := "ytadmldpphgfiaaa", sum := "4bdc246ec583c85c93415de76dd5acbd871e4e3414c8a81cb06bd61b48158f83", func := "opaline/opalinelaw05.FieldReckons", spec := "fieldReckons", inPlace := ["math/bits.Add64", "math/bits.Sub64"], unfollowed := true, recurses := true, named := ["math/bits.divideError", "math/bits.overflowError"], apart := false }
def FieldReckonsSaid : Prop := fieldReckonsRow.holds Try.pinned (OpenSpec.ofChange fieldReckonsSpec)

/-- ITS FALSE NEIGHBOUR: 'it returns false'. Refute it at one input. -/
def fieldReckonsWrong : ChangeSpec := { name := "fieldReckons", fn := fun _ => fun
  | [d1, d2, d3] => { results := [.lit (.bool false)], args := [d1, d2, d3] }
  | _ => none }
def FieldReckonsWrongFalsely : Prop := fieldReckonsRow.holds Try.pinned (OpenSpec.ofChange fieldReckonsWrong)

/-- 'opalinelaw05.FieldRoots': WHATEVER THE INPUT: true; the input reads as it did. -/
def fieldRootsSpec : ChangeSpec := { name := "fieldRoots", fn := fun _ => fun
  | [d1, d2] => { results := [.lit (.bool true)], args := [d1, d2] }
  | _ => none }
def fieldRootsRow : OpenClaim := { program := "ytadmldpphgfiaaa", sum := "4bdc246ec583c85c93415de76dd5acbd871e4e3414c8a81cb06bd61b48158f83", func := "opaline/opalinelaw05.FieldRoots", spec := "fieldRoots", inPlace := ["math/bits.Add64", "math/bits.Sub64"], unfollowed := true, recurses := true, named := ["math/bits.divideError", "math/bits.overflowError"], apart := false }
def FieldRootsSaid : Prop := fieldRootsRow.holds Try.pinned (OpenSpec.ofChange fieldRootsSpec)

/-- ITS FALSE NEIGHBOUR: 'it returns false'. Refute it at one input. -/
def fieldRootsWrong : ChangeSpec := { name := "fieldRoots", fn := fun _ => fun
  | [d1, d2] => { results := [.lit (.bool false)], args := [d1, d2] }
  | _ => none }
def FieldRootsWrongFalsely : Prop := fieldRootsRow.holds Try.pinned (OpenSpec.ofChange fieldRootsWrong)

/-- 'opalinelaw09.SealOpens': WHATEVER THE INPUT: true; the input reads as it did. -/
def sealOpensSpec : ChangeSpec := { name := "sealOpens", fn := fun _ => fun
  | [d1, d2, d3] => { results := [.lit (.bool true)], args := [d1, d2, d3] }
  | _ => none }
def sealOpensRow : OpenClaim := { program := "ytadmldpphgfiaaa", sum := "4bdc246ec583c85c93415de76dd5acbd871e4e3414c8a81cb06bd61b48158f83", func := "opaline/opalinelaw09.SealOpens", spec := "sealOpens", inPlace := ["internal/abi.NoEscape", "internal/bytealg.MakeNoZero"], unfollowed := true, recurses := true, apart := false }
def SealOpensSaid : Prop := sealOpensRow.holds Try.pinned (OpenSpec.ofChange sealOpensSpec)

/-- ITS FALSE NEIGHBOUR: 'it returns false'. Refute it at one input. -/
def sealOpensWrong : ChangeSpec := { name := "sealOpens", fn := fun _ => fun
  | [d1, d2, d3] => { results := [.lit (.bool false)], args := [d1, d2, d3] }
  | _ => none }
def SealOpensWrongFalsely : Prop := sealOpensRow.holds Try.pinned (OpenSpec.ofChange sealOpensWrong)

/-- 'opalinelaw09.SealSeals': WHATEVER THE INPUT: true; the input reads as it did. -/
def sealSealsSpec : ChangeSpec := { name := "sealSeals", fn := fun _ => fun
  | [d1, d2, d3, d4, d5] => { results := [.lit (.bool true)], args := [d1, d2, d3, d4, d5] }
  | _ => none }
def sealSealsRow : OpenClaim := { program := "ytadmldpphgfiaaa", sum := "4bdc246ec583c85c93415de76dd5acbd871e4e3414c8a81cb06bd61b48158f83", func := "opaline/opalinelaw09.SealSeals", spec := "sealSeals", inPlace := ["internal/abi.NoEscape", "internal/bytealg.MakeNoZero"], unfollowed := true, recurses := true, apart := false }
def SealSealsSaid : Prop := sealSealsRow.holds Try.pinned (OpenSpec.ofChange sealSealsSpec)

/-- ITS FALSE NEIGHBOUR: 'it returns false'. Refute it at one input. -/
def sealSealsWrong : ChangeSpec := { name := "sealSeals", fn := fun _ => fun
  | [d1, d2, d3, d4, d5] => { results := [.lit (.bool false)], args := [d1, d2, d3, d4, d5] }
  | _ => none }
def SealSealsWrongFalsely : Prop := sealSealsRow.holds Try.pinned (OpenSpec.ofChange sealSealsWrong)

/-- 'opalinelaw09.SealRows': WHATEVER THE INPUT: true; the input reads as it did. -/
def sealRowsSpec : ChangeSpec := { name := "sealRows", fn := fun _ => fun
  | [d1, d2, d3, d4] => { results := [.lit (.bool true)], args := [d1, d2, d3, d4] }
  | _ => none }
def sealRowsRow : OpenClaim := { program := "ytadmldpphgfiaaa", sum := "4bdc246ec583c85c93415de76dd5acbd871e4e3414c8a81cb06bd61b48158f83", func := "opaline/opalinelaw09.SealRows", spec := "sealRows", inPlace := ["internal/abi.NoEscape", "internal/bytealg.MakeNoZero"], unfollowed := true, recurses := true, apart := false }
def SealRowsSaid : Prop := sealRowsRow.holds Try.pinned (OpenSpec.ofChange sealRowsSpec)

/-- ITS FALSE NEIGHBOUR: 'it returns false'. Refute it at one input. -/
def sealRowsWrong : ChangeSpec := { name := "sealRows", fn := fun _ => fun
  | [d1, d2, d3, d4] => { results := [.lit (.bool false)], args := [d1, d2, d3, d4] }
  | _ => none }
def SealRowsWrongFalsely : Prop := sealRowsRow.holds Try.pinned (OpenSpec.ofChange sealRowsWrong)

/- THE SECOND FORM. 'bulk': how many values and letters a reading holds, each counted each time it is reached (what is shared counts as often as it is met; a slice's spare places count too). A statement '..UptoSaid' is the law's where the arguments, and the package variables that the reading takes, are together of bulk at most 1048576: NARROWER than '..Said'. Prove '..Said' where nothing that the law and all that it calls make is longer than what came in: it says more and counts as full. Else prove '..UptoSaid'. A law counts once. -/
mutual
def uptoBulk {H : Type} : DataW H → Nat
  | .lit (.string bytes) => bytes.length + 1
  | .lit _ => 1
  | .nil => 1
  | .ptr d => uptoBulk d + 1
  | .slice elems spare => uptoBulkAll elems + uptoBulkAll spare + 1
  | .agg parts => uptoBulkAll parts + 1
  | .iface _ d => uptoBulk d + 1
  | .map entries => uptoBulkEntries entries + 1
  | .held _ => 1
def uptoBulkAll {H : Type} : List (DataW H) → Nat
  | [] => 0
  | d :: r => uptoBulk d + uptoBulkAll r
def uptoBulkEntries {H : Type} : List (Lit × DataW H) → Nat
  | [] => 0
  | x :: r => uptoBulkEntry x + uptoBulkEntries r
def uptoBulkEntry {H : Type} : Lit × DataW H → Nat
  | (.string bytes, d) => bytes.length + uptoBulk d + 1
  | (_, d) => uptoBulk d + 1
 end
def uptoSmall : (H : Type) → List (DataW H) → Bool := fun _ ds => decide (uptoBulkAll ds ≤ 1048576)
def OpenSpec.upto (s : _root_.Go.ChangeSpec) : _root_.Go.OpenSpec := { _root_.Go.OpenSpec.ofChange s with cond := some uptoSmall }

/-- 'opalinelaw04.XmdXors', WHERE WHAT IT READS IS OF BULK AT MOST 1048576: true; the input reads as it did. -/
def xmdXorsUptoRow : OpenClaim := { program := "ytadmldpphgfiaaa", sum := "4bdc246ec583c85c93415de76dd5acbd871e4e3414c8a81cb06bd61b48158f83", func := "opaline/opalinelaw04.XmdXors", spec := "xmdXors", inPlace := ["internal/abi.NoEscape", "internal/bytealg.MakeNoZero"], unfollowed := true, recurses := true, apart := false, narrowed := true }
def XmdXorsUptoSaid : Prop := xmdXorsUptoRow.holds Try.pinned (OpenSpec.upto xmdXorsSpec)

/-- 'opalinelaw04.XmdParts', WHERE WHAT IT READS IS OF BULK AT MOST 1048576: true; the input reads as it did. -/
def xmdPartsUptoRow : OpenClaim := { program := "ytadmldpphgfiaaa", sum := "4bdc246ec583c85c93415de76dd5acbd871e4e3414c8a81cb06bd61b48158f83", func := "opaline/opalinelaw04.XmdParts", spec := "xmdParts", inPlace := ["internal/abi.NoEscape", "internal/bytealg.MakeNoZero"], unfollowed := true, recurses := true, apart := false, narrowed := true }
def XmdPartsUptoSaid : Prop := xmdPartsUptoRow.holds Try.pinned (OpenSpec.upto xmdPartsSpec)

/-- 'opalinelaw03.HmacExpands', WHERE WHAT IT READS IS OF BULK AT MOST 1048576: true; the input reads as it did. -/
def hmacExpandsUptoRow : OpenClaim := { program := "ytadmldpphgfiaaa", sum := "4bdc246ec583c85c93415de76dd5acbd871e4e3414c8a81cb06bd61b48158f83", func := "opaline/opalinelaw03.HmacExpands", spec := "hmacExpands", inPlace := ["internal/abi.NoEscape", "internal/bytealg.MakeNoZero"], unfollowed := true, recurses := true, apart := false, narrowed := true }
def HmacExpandsUptoSaid : Prop := hmacExpandsUptoRow.holds Try.pinned (OpenSpec.upto hmacExpandsSpec)

/-- 'opalinelaw05.FieldParses', WHERE WHAT IT READS IS OF BULK AT MOST 1048576: true; the input reads as it did. -/
def fieldParsesUptoRow : OpenClaim := { program := "ytadmldpphgfiaaa", sum := "4bdc246ec583c85c93415de76dd5acbd871e4e3414c8a81cb06bd61b48158f83", func := "opaline/opalinelaw05.FieldParses", spec := "fieldParses", inPlace := ["math/bits.Add64", "math/bits.Sub64"], unfollowed := true, recurses := true, named := ["math/bits.divideError", "math/bits.overflowError"], apart := false, narrowed := true }
def FieldParsesUptoSaid : Prop := fieldParsesUptoRow.holds Try.pinned (OpenSpec.upto fieldParsesSpec)

/-- 'opalinelaw19.ChainFront', WHERE WHAT IT READS IS OF BULK AT MOST 1048576: true; the input reads as it did. -/
def chainFrontUptoRow : OpenClaim := { program := "ytadmldpphgfiaaa", sum := "4bdc246ec583c85c93415de76dd5acbd871e4e3414c8a81cb06bd61b48158f83", func := "opaline/opalinelaw19.ChainFront", spec := "chainFront", inPlace := ["internal/abi.NoEscape", "internal/bytealg.MakeNoZero"], apart := false, narrowed := true }
def ChainFrontUptoSaid : Prop := chainFrontUptoRow.holds Try.pinned (OpenSpec.upto chainFrontSpec)

/-- 'opalinelaw19.ChainTexts', WHERE WHAT IT READS IS OF BULK AT MOST 1048576: true; the input reads as it did. -/
def chainTextsUptoRow : OpenClaim := { program := "ytadmldpphgfiaaa", sum := "4bdc246ec583c85c93415de76dd5acbd871e4e3414c8a81cb06bd61b48158f83", func := "opaline/opalinelaw19.ChainTexts", spec := "chainTexts", inPlace := ["internal/abi.NoEscape", "internal/bytealg.MakeNoZero"], apart := false, narrowed := true }
def ChainTextsUptoSaid : Prop := chainTextsUptoRow.holds Try.pinned (OpenSpec.upto chainTextsSpec)

/-- 'opalinelaw05.FieldLaws', WHERE WHAT IT READS IS OF BULK AT MOST 1048576: true; the input reads as it did. -/
def fieldLawsUptoRow : OpenClaim := { program := "ytadmldpphgfiaaa", sum := "4bdc246ec583c85c93415de76dd5acbd871e4e3414c8a81cb06bd61b48158f83", func := "opaline/opalinelaw05.FieldLaws", spec := "fieldLaws", inPlace := ["math/bits.Add64", "math/bits.Sub64"], unfollowed := true, recurses := true, named := ["math/bits.divideError", "math/bits.overflowError"], apart := false, narrowed := true }
def FieldLawsUptoSaid : Prop := fieldLawsUptoRow.holds Try.pinned (OpenSpec.upto fieldLawsSpec)

/-- 'opalinelaw05.FieldBytes', WHERE WHAT IT READS IS OF BULK AT MOST 1048576: true; the input reads as it did. -/
def fieldBytesUptoRow : OpenClaim := { program := "ytadmldpphgfiaaa", sum := "4bdc246ec583c85c93415de76dd5acbd871e4e3414c8a81cb06bd61b48158f83", func := "opaline/opalinelaw05.FieldBytes", spec := "fieldBytes", inPlace := ["math/bits.Add64", "math/bits.Sub64"], unfollowed := true, recurses := true, named := ["math/bits.divideError", "math/bits.overflowError"], apart := false, narrowed := true }
def FieldBytesUptoSaid : Prop := fieldBytesUptoRow.holds Try.pinned (OpenSpec.upto fieldBytesSpec)

/-- 'opalinelaw05.FieldReckons', WHERE WHAT IT READS IS OF BULK AT MOST 1048576: true; the input reads as it did. -/
def fieldReckonsUptoRow : OpenClaim := { program := "ytadmldpphgfiaaa", sum := "4bdc246ec583c85c93415de76dd5acbd871e4e3414c8a81cb06bd61b48158f83", func := "opaline/opalinelaw05.FieldReckons", spec := "fieldReckons", inPlace := ["math/bits.Add64", "math/bits.Sub64"], unfollowed := true, recurses := true, named := ["math/bits.divideError", "math/bits.overflowError"], apart := false, narrowed := true }
def FieldReckonsUptoSaid : Prop := fieldReckonsUptoRow.holds Try.pinned (OpenSpec.upto fieldReckonsSpec)

/-- 'opalinelaw05.FieldRoots', WHERE WHAT IT READS IS OF BULK AT MOST 1048576: true; the input reads as it did. -/
def fieldRootsUptoRow : OpenClaim := { program := "ytadmldpphgfiaaa", sum := "4bdc246ec583c85c93415de76dd5acbd871e4e3414c8a81cb06bd61b48158f83", func := "opaline/opalinelaw05.FieldRoots", spec := "fieldRoots", inPlace := ["math/bits.Add64", "math/bits.Sub64"], unfollowed := true, recurses := true, named := ["math/bits.divideError", "math/bits.overflowError"], apart := false, narrowed := true }
def FieldRootsUptoSaid : Prop := fieldRootsUptoRow.holds Try.pinned (OpenSpec.upto fieldRootsSpec)

/-- 'opalinelaw09.SealOpens', WHERE WHAT IT READS IS OF BULK AT MOST 1048576: true; the input reads as it did. -/
def sealOpensUptoRow : OpenClaim := { program := "ytadmldpphgfiaaa", sum := "4bdc246ec583c85c93415de76dd5acbd871e4e3414c8a81cb06bd61b48158f83", func := "opaline/opalinelaw09.SealOpens", spec := "sealOpens", inPlace := ["internal/abi.NoEscape", "internal/bytealg.MakeNoZero"], unfollowed := true, recurses := true, apart := false, narrowed := true }
def SealOpensUptoSaid : Prop := sealOpensUptoRow.holds Try.pinned (OpenSpec.upto sealOpensSpec)

/-- 'opalinelaw09.SealSeals', WHERE WHAT IT READS IS OF BULK AT MOST 1048576: true; the input reads as it did. -/
def sealSealsUptoRow : OpenClaim := { program := "ytadmldpphgfiaaa", sum := "4bdc246ec583c85c93415de76dd5acbd871e4e3414c8a81cb06bd61b48158f83", func := "opaline/opalinelaw09.SealSeals", spec := "sealSeals", inPlace := ["internal/abi.NoEscape", "internal/bytealg.MakeNoZero"], unfollowed := true, recurses := true, apart := false, narrowed := true }
def SealSealsUptoSaid : Prop := sealSealsUptoRow.holds Try.pinned (OpenSpec.upto sealSealsSpec)

/-- 'opalinelaw09.SealRows', WHERE WHAT IT READS IS OF BULK AT MOST 1048576: true; the input reads as it did. -/
def sealRowsUptoRow : OpenClaim := { program := "ytadmldpphgfiaaa", sum := "4bdc246ec583c85c93415de76dd5acbd871e4e3414c8a81cb06bd61b48158f83", func := "opaline/opalinelaw09.SealRows", spec := "sealRows", inPlace := ["internal/abi.NoEscape", "internal/bytealg.MakeNoZero"], unfollowed := true, recurses := true, apart := false, narrowed := true }
def SealRowsUptoSaid : Prop := sealRowsUptoRow.holds Try.pinned (OpenSpec.upto sealRowsSpec)

end Rows
end Go.Proofs.Ytadmldpphgfiaaa
