/-
  NARROWER THAN 'FOR EVERY INPUT', by the rows' own cells (each row's printed sentence says how): FnExactCountPairings: laid · FnExactCountRows: laid · FnExactFirstPairing: laid · FnExactMostInPairs: laid · FnExactAllGroups: laid · FnExactAllApart: laid · FnExactPuzzleText: laid · FnPartsLackGroups: laid · FnExactMakePuzzle: laid · FnExactSolutions: laid.
  DERIVED. THE GIVEN ROWS OF THIS SEAT. 10 by the template 'for every input the law returns true; each argument reads behind the call as it read before'; 0 by the template 'total and deterministic' (their statements: YtopahhcojncgaaaDoorTotals.lean).
  GIVEN WITH THE SEED: the statements are not yours to turn. If you find one false, say at which input.
  Laid BY PROGRAM, IN A SANDBOX (cutbox-rows.mjs): the forced cells as the released guide's own fill.sh prints them over the translation dc7b3c31ab6b7b5b… (all of the seat's roots in one cut). By AI agents, Wed Nov 11 2026. No macro, syntax, notation, axiom, sorry.
-/
import Derived.Test.YtopahhcojncgaaaDoorChecked
import GoSem.Claim
import GoSem.ClaimJoined
import GoSem.ClaimMapViews
import Derived.JoinedTies
import Derived.KernelRfl
namespace Go.Proofs.YtopahhcojncgaaaDoor
/- THE CELL 'sum', in the pinned program and in every row, IS THE sha256 OF THE DUMP (.gsa) THAT YtopahhcojncgaaaDoorProg.lean LOADS. Nothing in Lean hashes anything: it is a label: what it is worth is what the hold of that sum in a sandbox is worth. -/
noncomputable def Tryd.pinned : Pinned := { name := "ytopahhcojncgaaadoor", sum := "dc7b3c31ab6b7b5b1f1794b8adb84bcac839b7ebbe75d2a99e7fc855d5697281", checked := Tryd.checked }
namespace Rows
def none {H : Type} : Left H := { results := [], args := [] }

/- WHAT THE LISTED PACKAGE-LEVEL VARIABLES READ AS WHEN THE CALL BEGINS. Each datum BY PROGRAM (the guide's laid-datum.mjs) off the statement by which the dump's own 'gosem.cut.vars' lays the variable. In a bare row this is a premise. The card (YtopahhcojncgaaaDoorCards.lean) ties it to the program's text. -/
def laid_math_bits_deBruijn32tab {H : Type} : DataW H := .agg [.lit (.int .u8 0), .lit (.int .u8 1), .lit (.int .u8 28), .lit (.int .u8 2), .lit (.int .u8 29), .lit (.int .u8 14), .lit (.int .u8 24), .lit (.int .u8 3), .lit (.int .u8 30), .lit (.int .u8 22), .lit (.int .u8 20), .lit (.int .u8 15), .lit (.int .u8 25), .lit (.int .u8 17), .lit (.int .u8 4), .lit (.int .u8 8), .lit (.int .u8 31), .lit (.int .u8 27), .lit (.int .u8 13), .lit (.int .u8 23), .lit (.int .u8 21), .lit (.int .u8 19), .lit (.int .u8 16), .lit (.int .u8 7), .lit (.int .u8 26), .lit (.int .u8 12), .lit (.int .u8 18), .lit (.int .u8 6), .lit (.int .u8 11), .lit (.int .u8 5), .lit (.int .u8 10), .lit (.int .u8 9)]
def laid_math_bits_deBruijn64tab {H : Type} : DataW H := .agg [.lit (.int .u8 0), .lit (.int .u8 1), .lit (.int .u8 56), .lit (.int .u8 2), .lit (.int .u8 57), .lit (.int .u8 49), .lit (.int .u8 28), .lit (.int .u8 3), .lit (.int .u8 61), .lit (.int .u8 58), .lit (.int .u8 42), .lit (.int .u8 50), .lit (.int .u8 38), .lit (.int .u8 29), .lit (.int .u8 17), .lit (.int .u8 4), .lit (.int .u8 62), .lit (.int .u8 47), .lit (.int .u8 59), .lit (.int .u8 36), .lit (.int .u8 45), .lit (.int .u8 43), .lit (.int .u8 51), .lit (.int .u8 22), .lit (.int .u8 53), .lit (.int .u8 39), .lit (.int .u8 33), .lit (.int .u8 30), .lit (.int .u8 24), .lit (.int .u8 18), .lit (.int .u8 12), .lit (.int .u8 5), .lit (.int .u8 63), .lit (.int .u8 55), .lit (.int .u8 48), .lit (.int .u8 27), .lit (.int .u8 60), .lit (.int .u8 41), .lit (.int .u8 37), .lit (.int .u8 16), .lit (.int .u8 46), .lit (.int .u8 35), .lit (.int .u8 44), .lit (.int .u8 21), .lit (.int .u8 52), .lit (.int .u8 32), .lit (.int .u8 23), .lit (.int .u8 11), .lit (.int .u8 54), .lit (.int .u8 26), .lit (.int .u8 40), .lit (.int .u8 15), .lit (.int .u8 34), .lit (.int .u8 20), .lit (.int .u8 31), .lit (.int .u8 10), .lit (.int .u8 25), .lit (.int .u8 14), .lit (.int .u8 19), .lit (.int .u8 9), .lit (.int .u8 13), .lit (.int .u8 8), .lit (.int .u8 7), .lit (.int .u8 6)]
def laid_internal_strconv_uint64pow10 {H : Type} : DataW H := .agg [.lit (.int .u64 1), .lit (.int .u64 10), .lit (.int .u64 100), .lit (.int .u64 1000), .lit (.int .u64 10000), .lit (.int .u64 100000), .lit (.int .u64 1000000), .lit (.int .u64 10000000), .lit (.int .u64 100000000), .lit (.int .u64 1000000000), .lit (.int .u64 10000000000), .lit (.int .u64 100000000000), .lit (.int .u64 1000000000000), .lit (.int .u64 10000000000000), .lit (.int .u64 100000000000000), .lit (.int .u64 1000000000000000), .lit (.int .u64 10000000000000000), .lit (.int .u64 100000000000000000), .lit (.int .u64 1000000000000000000), .lit (.int .u64 10000000000000000000)]

/-- 'laws.FnExactCountPairings': WHATEVER THE INPUT: true; the input reads as it did. -/
def fnExactCountPairingsSpec : ChangeSpec := { name := "fnExactCountPairings", fn := fun _ => fun
  | [d] => { results := [.lit (.bool true)], args := [d] }
  | _ => none }
def fnExactCountPairingsRow : OpenClaim := { program := "ytopahhcojncgaaadoor", sum := "dc7b3c31ab6b7b5b1f1794b8adb84bcac839b7ebbe75d2a99e7fc855d5697281", func := "loop.example/g01257/laws.FnExactCountPairings", spec := "fnExactCountPairings", unfollowed := true, recurses := true, named := ["math/bits.deBruijn32tab"], apart := false, laid := [("math/bits.deBruijn32tab", laid_math_bits_deBruijn32tab)] }
def FnExactCountPairingsSaid : Prop := fnExactCountPairingsRow.holds Tryd.pinned (OpenSpec.ofChange fnExactCountPairingsSpec)

/-- ITS FALSE NEIGHBOUR: 'it returns false'. Refute it at one input. -/
def fnExactCountPairingsWrong : ChangeSpec := { name := "fnExactCountPairings", fn := fun _ => fun
  | [d] => { results := [.lit (.bool false)], args := [d] }
  | _ => none }
def FnExactCountPairingsWrongFalsely : Prop := fnExactCountPairingsRow.holds Tryd.pinned (OpenSpec.ofChange fnExactCountPairingsWrong)

/-- 'laws.FnExactCountRows': WHATEVER THE INPUT: true; the input reads as it did. -/
def fnExactCountRowsSpec : ChangeSpec := { name := "fnExactCountRows", fn := fun _ => fun
  | [d] => { results := [.lit (.bool true)], args := [d] }
  | _ => none }
def fnExactCountRowsRow : OpenClaim := { program := "ytopahhcojncgaaadoor", sum := "dc7b3c31ab6b7b5b1f1794b8adb84bcac839b7ebbe75d2a99e7fc855d5697281", func := "loop.example/g01257/laws.FnExactCountRows", spec := "fnExactCountRows", recurses := true, named := ["math/bits.deBruijn32tab"], apart := false, laid := [("math/bits.deBruijn32tab", laid_math_bits_deBruijn32tab)] }
def FnExactCountRowsSaid : Prop := fnExactCountRowsRow.holds Tryd.pinned (OpenSpec.ofChange fnExactCountRowsSpec)

/-- ITS FALSE NEIGHBOUR: 'it returns false'. Refute it at one input. -/
def fnExactCountRowsWrong : ChangeSpec := { name := "fnExactCountRows", fn := fun _ => fun
  | [d] => { results := [.lit (.bool false)], args := [d] }
  | _ => none }
def FnExactCountRowsWrongFalsely : Prop := fnExactCountRowsRow.holds Tryd.pinned (OpenSpec.ofChange fnExactCountRowsWrong)

/-- 'laws.FnExactFirstPairing': WHATEVER THE INPUT: true; the input reads as it did. -/
def fnExactFirstPairingSpec : ChangeSpec := { name := "fnExactFirstPairing", fn := fun _ => fun
  | [d] => { results := [.lit (.bool true)], args := [d] }
  | _ => none }
def fnExactFirstPairingRow : OpenClaim := { program := "ytopahhcojncgaaadoor", sum := "dc7b3c31ab6b7b5b1f1794b8adb84bcac839b7ebbe75d2a99e7fc855d5697281", func := "loop.example/g01257/laws.FnExactFirstPairing", spec := "fnExactFirstPairing", recurses := true, named := ["math/bits.deBruijn32tab"], apart := false, laid := [("math/bits.deBruijn32tab", laid_math_bits_deBruijn32tab)] }
def FnExactFirstPairingSaid : Prop := fnExactFirstPairingRow.holds Tryd.pinned (OpenSpec.ofChange fnExactFirstPairingSpec)

/-- ITS FALSE NEIGHBOUR: 'it returns false'. Refute it at one input. -/
def fnExactFirstPairingWrong : ChangeSpec := { name := "fnExactFirstPairing", fn := fun _ => fun
  | [d] => { results := [.lit (.bool false)], args := [d] }
  | _ => none }
def FnExactFirstPairingWrongFalsely : Prop := fnExactFirstPairingRow.holds Tryd.pinned (OpenSpec.ofChange fnExactFirstPairingWrong)

/-- 'laws.FnExactMostInPairs': WHATEVER THE INPUT: true; the input reads as it did. -/
def fnExactMostInPairsSpec : ChangeSpec := { name := "fnExactMostInPairs", fn := fun _ => fun
  | [d] => { results := [.lit (.bool true)], args := [d] }
  | _ => none }
def fnExactMostInPairsRow : OpenClaim := { program := "ytopahhcojncgaaadoor", sum := "dc7b3c31ab6b7b5b1f1794b8adb84bcac839b7ebbe75d2a99e7fc855d5697281", func := "loop.example/g01257/laws.FnExactMostInPairs", spec := "fnExactMostInPairs", recurses := true, named := ["math/bits.deBruijn32tab"], apart := false, laid := [("math/bits.deBruijn32tab", laid_math_bits_deBruijn32tab)] }
def FnExactMostInPairsSaid : Prop := fnExactMostInPairsRow.holds Tryd.pinned (OpenSpec.ofChange fnExactMostInPairsSpec)

/-- ITS FALSE NEIGHBOUR: 'it returns false'. Refute it at one input. -/
def fnExactMostInPairsWrong : ChangeSpec := { name := "fnExactMostInPairs", fn := fun _ => fun
  | [d] => { results := [.lit (.bool false)], args := [d] }
  | _ => none }
def FnExactMostInPairsWrongFalsely : Prop := fnExactMostInPairsRow.holds Tryd.pinned (OpenSpec.ofChange fnExactMostInPairsWrong)

/-- 'laws.FnExactAllGroups': WHATEVER THE INPUT: true; the input reads as it did. -/
def fnExactAllGroupsSpec : ChangeSpec := { name := "fnExactAllGroups", fn := fun _ => fun
  | [d] => { results := [.lit (.bool true)], args := [d] }
  | _ => none }
def fnExactAllGroupsRow : OpenClaim := { program := "ytopahhcojncgaaadoor", sum := "dc7b3c31ab6b7b5b1f1794b8adb84bcac839b7ebbe75d2a99e7fc855d5697281", func := "loop.example/g01257/laws.FnExactAllGroups", spec := "fnExactAllGroups", unfollowed := true, recurses := true, named := ["math/bits.deBruijn32tab"], apart := false, laid := [("math/bits.deBruijn32tab", laid_math_bits_deBruijn32tab)] }
def FnExactAllGroupsSaid : Prop := fnExactAllGroupsRow.holds Tryd.pinned (OpenSpec.ofChange fnExactAllGroupsSpec)

/-- ITS FALSE NEIGHBOUR: 'it returns false'. Refute it at one input. -/
def fnExactAllGroupsWrong : ChangeSpec := { name := "fnExactAllGroups", fn := fun _ => fun
  | [d] => { results := [.lit (.bool false)], args := [d] }
  | _ => none }
def FnExactAllGroupsWrongFalsely : Prop := fnExactAllGroupsRow.holds Tryd.pinned (OpenSpec.ofChange fnExactAllGroupsWrong)

/-- 'laws.FnExactAllApart': WHATEVER THE INPUT: true; the input reads as it did. -/
def fnExactAllApartSpec : ChangeSpec := { name := "fnExactAllApart", fn := fun _ => fun
  | [d] => { results := [.lit (.bool true)], args := [d] }
  | _ => none }
def fnExactAllApartRow : OpenClaim := { program := "ytopahhcojncgaaadoor", sum := "dc7b3c31ab6b7b5b1f1794b8adb84bcac839b7ebbe75d2a99e7fc855d5697281", func := "loop.example/g01257/laws.FnExactAllApart", spec := "fnExactAllApart", unfollowed := true, recurses := true, named := ["math/bits.deBruijn32tab"], apart := false, laid := [("math/bits.deBruijn32tab", laid_math_bits_deBruijn32tab)] }
def FnExactAllApartSaid : Prop := fnExactAllApartRow.holds Tryd.pinned (OpenSpec.ofChange fnExactAllApartSpec)

/-- ITS FALSE NEIGHBOUR: 'it returns false'. Refute it at one input. -/
def fnExactAllApartWrong : ChangeSpec := { name := "fnExactAllApart", fn := fun _ => fun
  | [d] => { results := [.lit (.bool false)], args := [d] }
  | _ => none }
def FnExactAllApartWrongFalsely : Prop := fnExactAllApartRow.holds Tryd.pinned (OpenSpec.ofChange fnExactAllApartWrong)

/-- 'laws.FnExactPuzzleText': WHATEVER THE INPUT: true; the input reads as it did. -/
def fnExactPuzzleTextSpec : ChangeSpec := { name := "fnExactPuzzleText", fn := fun _ => fun
  | [d] => { results := [.lit (.bool true)], args := [d] }
  | _ => none }
def fnExactPuzzleTextRow : OpenClaim := { program := "ytopahhcojncgaaadoor", sum := "dc7b3c31ab6b7b5b1f1794b8adb84bcac839b7ebbe75d2a99e7fc855d5697281", func := "loop.example/g01257/laws.FnExactPuzzleText", spec := "fnExactPuzzleText", inPlace := ["internal/abi.NoEscape", "internal/bytealg.MakeNoZero"], unfollowed := true, recurses := true, named := ["internal/strconv.uint64pow10", "math/bits.deBruijn32tab", "math/bits.deBruijn64tab"], apart := false, laid := [("math/bits.deBruijn32tab", laid_math_bits_deBruijn32tab), ("math/bits.deBruijn64tab", laid_math_bits_deBruijn64tab), ("internal/strconv.uint64pow10", laid_internal_strconv_uint64pow10)] }
def FnExactPuzzleTextSaid : Prop := fnExactPuzzleTextRow.holds Tryd.pinned (OpenSpec.ofChange fnExactPuzzleTextSpec)

/-- ITS FALSE NEIGHBOUR: 'it returns false'. Refute it at one input. -/
def fnExactPuzzleTextWrong : ChangeSpec := { name := "fnExactPuzzleText", fn := fun _ => fun
  | [d] => { results := [.lit (.bool false)], args := [d] }
  | _ => none }
def FnExactPuzzleTextWrongFalsely : Prop := fnExactPuzzleTextRow.holds Tryd.pinned (OpenSpec.ofChange fnExactPuzzleTextWrong)

/-- 'laws.FnPartsLackGroups': WHATEVER THE INPUT: true; the input reads as it did. -/
def fnPartsLackGroupsSpec : ChangeSpec := { name := "fnPartsLackGroups", fn := fun _ => fun
  | [d1, d2] => { results := [.lit (.bool true)], args := [d1, d2] }
  | _ => none }
def fnPartsLackGroupsRow : OpenClaim := { program := "ytopahhcojncgaaadoor", sum := "dc7b3c31ab6b7b5b1f1794b8adb84bcac839b7ebbe75d2a99e7fc855d5697281", func := "loop.example/g01257/laws.FnPartsLackGroups", spec := "fnPartsLackGroups", unfollowed := true, recurses := true, named := ["math/bits.deBruijn32tab"], apart := false, laid := [("math/bits.deBruijn32tab", laid_math_bits_deBruijn32tab)] }
def FnPartsLackGroupsSaid : Prop := fnPartsLackGroupsRow.holds Tryd.pinned (OpenSpec.ofChange fnPartsLackGroupsSpec)

/-- ITS FALSE NEIGHBOUR: 'it returns false'. Refute it at one input. -/
def fnPartsLackGroupsWrong : ChangeSpec := { name := "fnPartsLackGroups", fn := fun _ => fun
  | [d1, d2] => { results := [.lit (.bool false)], args := [d1, d2] }
  | _ => none }
def FnPartsLackGroupsWrongFalsely : Prop := fnPartsLackGroupsRow.holds Tryd.pinned (OpenSpec.ofChange fnPartsLackGroupsWrong)

/-- 'laws.FnExactMakePuzzle': WHATEVER THE INPUT: true; the input reads as it did. -/
def fnExactMakePuzzleSpec : ChangeSpec := { name := "fnExactMakePuzzle", fn := fun _ => fun
  | [d1, d2, d3] => { results := [.lit (.bool true)], args := [d1, d2, d3] }
  | _ => none }
def fnExactMakePuzzleRow : OpenClaim := { program := "ytopahhcojncgaaadoor", sum := "dc7b3c31ab6b7b5b1f1794b8adb84bcac839b7ebbe75d2a99e7fc855d5697281", func := "loop.example/g01257/laws.FnExactMakePuzzle", spec := "fnExactMakePuzzle", unfollowed := true, recurses := true, named := ["math/bits.deBruijn32tab"], apart := false, laid := [("math/bits.deBruijn32tab", laid_math_bits_deBruijn32tab)] }
def FnExactMakePuzzleSaid : Prop := fnExactMakePuzzleRow.holds Tryd.pinned (OpenSpec.ofChange fnExactMakePuzzleSpec)

/-- ITS FALSE NEIGHBOUR: 'it returns false'. Refute it at one input. -/
def fnExactMakePuzzleWrong : ChangeSpec := { name := "fnExactMakePuzzle", fn := fun _ => fun
  | [d1, d2, d3] => { results := [.lit (.bool false)], args := [d1, d2, d3] }
  | _ => none }
def FnExactMakePuzzleWrongFalsely : Prop := fnExactMakePuzzleRow.holds Tryd.pinned (OpenSpec.ofChange fnExactMakePuzzleWrong)

/-- 'laws.FnExactSolutions': WHATEVER THE INPUT: true; the input reads as it did. -/
def fnExactSolutionsSpec : ChangeSpec := { name := "fnExactSolutions", fn := fun _ => fun
  | [d] => { results := [.lit (.bool true)], args := [d] }
  | _ => none }
def fnExactSolutionsRow : OpenClaim := { program := "ytopahhcojncgaaadoor", sum := "dc7b3c31ab6b7b5b1f1794b8adb84bcac839b7ebbe75d2a99e7fc855d5697281", func := "loop.example/g01257/laws.FnExactSolutions", spec := "fnExactSolutions", unfollowed := true, recurses := true, named := ["math/bits.deBruijn32tab"], apart := false, laid := [("math/bits.deBruijn32tab", laid_math_bits_deBruijn32tab)] }
def FnExactSolutionsSaid : Prop := fnExactSolutionsRow.holds Tryd.pinned (OpenSpec.ofChange fnExactSolutionsSpec)

/-- ITS FALSE NEIGHBOUR: 'it returns false'. Refute it at one input. -/
def fnExactSolutionsWrong : ChangeSpec := { name := "fnExactSolutions", fn := fun _ => fun
  | [d] => { results := [.lit (.bool false)], args := [d] }
  | _ => none }
def FnExactSolutionsWrongFalsely : Prop := fnExactSolutionsRow.holds Tryd.pinned (OpenSpec.ofChange fnExactSolutionsWrong)

/- THE SECOND FORM. 'bulk': how many values and letters a reading holds, each counted each time it is reached (what is shared counts as often as it is met; a slice's spare places count too). A statement '..UptoSaid' is the law's where the arguments, and the package variables that the reading takes, are together of bulk at most 1048576: NARROWER than '..Said'. Prove '..Said' where nothing that the law and all that it calls make is longer than what came in: it says more and counts as full. Else prove '..UptoSaid'. A law counts once. -/
mutual
def uptoBulk {H : Type} : DataW H → Nat
  | .lit (.string bytes) => bytes.length + 1
  | .lit _ => 1
  | .nil => 1
  | .ptr d => uptoBulk d + 1
  | .slice elems spare => uptoBulkAll elems + uptoBulkAll spare + 1
  | .agg parts => uptoBulkAll parts + 1
  | .iface _ d => uptoBulk d + 1
  | .map entries => uptoBulkEntries entries + 1
  | .held _ => 1
def uptoBulkAll {H : Type} : List (DataW H) → Nat
  | [] => 0
  | d :: r => uptoBulk d + uptoBulkAll r
def uptoBulkEntries {H : Type} : List (Lit × DataW H) → Nat
  | [] => 0
  | x :: r => uptoBulkEntry x + uptoBulkEntries r
def uptoBulkEntry {H : Type} : Lit × DataW H → Nat
  | (.string bytes, d) => bytes.length + uptoBulk d + 1
  | (_, d) => uptoBulk d + 1
 end
def uptoSmall : (H : Type) → List (DataW H) → Bool := fun _ ds => decide (uptoBulkAll ds ≤ 1048576)
def OpenSpec.upto (s : _root_.Go.ChangeSpec) : _root_.Go.OpenSpec := { _root_.Go.OpenSpec.ofChange s with cond := some uptoSmall }

/-- 'laws.FnExactCountPairings', WHERE WHAT IT READS IS OF BULK AT MOST 1048576: true; the input reads as it did. -/
def fnExactCountPairingsUptoRow : OpenClaim := { program := "ytopahhcojncgaaadoor", sum := "dc7b3c31ab6b7b5b1f1794b8adb84bcac839b7ebbe75d2a99e7fc855d5697281", func := "loop.example/g01257/laws.FnExactCountPairings", spec := "fnExactCountPairings", unfollowed := true, recurses := true, named := ["math/bits.deBruijn32tab"], apart := false, laid := [("math/bits.deBruijn32tab", laid_math_bits_deBruijn32tab)], narrowed := true }
def FnExactCountPairingsUptoSaid : Prop := fnExactCountPairingsUptoRow.holds Tryd.pinned (OpenSpec.upto fnExactCountPairingsSpec)

/-- 'laws.FnExactCountRows', WHERE WHAT IT READS IS OF BULK AT MOST 1048576: true; the input reads as it did. -/
def fnExactCountRowsUptoRow : OpenClaim := { program := "ytopahhcojncgaaadoor", sum := "dc7b3c31ab6b7b5b1f1794b8adb84bcac839b7ebbe75d2a99e7fc855d5697281", func := "loop.example/g01257/laws.FnExactCountRows", spec := "fnExactCountRows", recurses := true, named := ["math/bits.deBruijn32tab"], apart := false, laid := [("math/bits.deBruijn32tab", laid_math_bits_deBruijn32tab)], narrowed := true }
def FnExactCountRowsUptoSaid : Prop := fnExactCountRowsUptoRow.holds Tryd.pinned (OpenSpec.upto fnExactCountRowsSpec)

/-- 'laws.FnExactFirstPairing', WHERE WHAT IT READS IS OF BULK AT MOST 1048576: true; the input reads as it did. -/
def fnExactFirstPairingUptoRow : OpenClaim := { program := "ytopahhcojncgaaadoor", sum := "dc7b3c31ab6b7b5b1f1794b8adb84bcac839b7ebbe75d2a99e7fc855d5697281", func := "loop.example/g01257/laws.FnExactFirstPairing", spec := "fnExactFirstPairing", recurses := true, named := ["math/bits.deBruijn32tab"], apart := false, laid := [("math/bits.deBruijn32tab", laid_math_bits_deBruijn32tab)], narrowed := true }
def FnExactFirstPairingUptoSaid : Prop := fnExactFirstPairingUptoRow.holds Tryd.pinned (OpenSpec.upto fnExactFirstPairingSpec)

/-- 'laws.FnExactMostInPairs', WHERE WHAT IT READS IS OF BULK AT MOST 1048576: true; the input reads as it did. -/
def fnExactMostInPairsUptoRow : OpenClaim := { program := "ytopahhcojncgaaadoor", sum := "dc7b3c31ab6b7b5b1f1794b8adb84bcac839b7ebbe75d2a99e7fc855d5697281", func := "loop.example/g01257/laws.FnExactMostInPairs", spec := "fnExactMostInPairs", recurses := true, named := ["math/bits.deBruijn32tab"], apart := false, laid := [("math/bits.deBruijn32tab", laid_math_bits_deBruijn32tab)], narrowed := true }
def FnExactMostInPairsUptoSaid : Prop := fnExactMostInPairsUptoRow.holds Tryd.pinned (OpenSpec.upto fnExactMostInPairsSpec)

/-- 'laws.FnExactAllGroups', WHERE WHAT IT READS IS OF BULK AT MOST 1048576: true; the input reads as it did. -/
def fnExactAllGroupsUptoRow : OpenClaim := { program := "ytopahhcojncgaaadoor", sum := "dc7b3c31ab6b7b5b1f1794b8adb84bcac839b7ebbe75d2a99e7fc855d5697281", func := "loop.example/g01257/laws.FnExactAllGroups", spec := "fnExactAllGroups", unfollowed := true, recurses := true, named := ["math/bits.deBruijn32tab"], apart := false, laid := [("math/bits.deBruijn32tab", laid_math_bits_deBruijn32tab)], narrowed := true }
def FnExactAllGroupsUptoSaid : Prop := fnExactAllGroupsUptoRow.holds Tryd.pinned (OpenSpec.upto fnExactAllGroupsSpec)

/-- 'laws.FnExactAllApart', WHERE WHAT IT READS IS OF BULK AT MOST 1048576: true; the input reads as it did. -/
def fnExactAllApartUptoRow : OpenClaim := { program := "ytopahhcojncgaaadoor", sum := "dc7b3c31ab6b7b5b1f1794b8adb84bcac839b7ebbe75d2a99e7fc855d5697281", func := "loop.example/g01257/laws.FnExactAllApart", spec := "fnExactAllApart", unfollowed := true, recurses := true, named := ["math/bits.deBruijn32tab"], apart := false, laid := [("math/bits.deBruijn32tab", laid_math_bits_deBruijn32tab)], narrowed := true }
def FnExactAllApartUptoSaid : Prop := fnExactAllApartUptoRow.holds Tryd.pinned (OpenSpec.upto fnExactAllApartSpec)

/-- 'laws.FnExactPuzzleText', WHERE WHAT IT READS IS OF BULK AT MOST 1048576: true; the input reads as it did. -/
def fnExactPuzzleTextUptoRow : OpenClaim := { program := "ytopahhcojncgaaadoor", sum := "dc7b3c31ab6b7b5b1f1794b8adb84bcac839b7ebbe75d2a99e7fc855d5697281", func := "loop.example/g01257/laws.FnExactPuzzleText", spec := "fnExactPuzzleText", inPlace := ["internal/abi.NoEscape", "internal/bytealg.MakeNoZero"], unfollowed := true, recurses := true, named := ["internal/strconv.uint64pow10", "math/bits.deBruijn32tab", "math/bits.deBruijn64tab"], apart := false, laid := [("math/bits.deBruijn32tab", laid_math_bits_deBruijn32tab), ("math/bits.deBruijn64tab", laid_math_bits_deBruijn64tab), ("internal/strconv.uint64pow10", laid_internal_strconv_uint64pow10)], narrowed := true }
def FnExactPuzzleTextUptoSaid : Prop := fnExactPuzzleTextUptoRow.holds Tryd.pinned (OpenSpec.upto fnExactPuzzleTextSpec)

/-- 'laws.FnPartsLackGroups', WHERE WHAT IT READS IS OF BULK AT MOST 1048576: true; the input reads as it did. -/
def fnPartsLackGroupsUptoRow : OpenClaim := { program := "ytopahhcojncgaaadoor", sum := "dc7b3c31ab6b7b5b1f1794b8adb84bcac839b7ebbe75d2a99e7fc855d5697281", func := "loop.example/g01257/laws.FnPartsLackGroups", spec := "fnPartsLackGroups", unfollowed := true, recurses := true, named := ["math/bits.deBruijn32tab"], apart := false, laid := [("math/bits.deBruijn32tab", laid_math_bits_deBruijn32tab)], narrowed := true }
def FnPartsLackGroupsUptoSaid : Prop := fnPartsLackGroupsUptoRow.holds Tryd.pinned (OpenSpec.upto fnPartsLackGroupsSpec)

/-- 'laws.FnExactMakePuzzle', WHERE WHAT IT READS IS OF BULK AT MOST 1048576: true; the input reads as it did. -/
def fnExactMakePuzzleUptoRow : OpenClaim := { program := "ytopahhcojncgaaadoor", sum := "dc7b3c31ab6b7b5b1f1794b8adb84bcac839b7ebbe75d2a99e7fc855d5697281", func := "loop.example/g01257/laws.FnExactMakePuzzle", spec := "fnExactMakePuzzle", unfollowed := true, recurses := true, named := ["math/bits.deBruijn32tab"], apart := false, laid := [("math/bits.deBruijn32tab", laid_math_bits_deBruijn32tab)], narrowed := true }
def FnExactMakePuzzleUptoSaid : Prop := fnExactMakePuzzleUptoRow.holds Tryd.pinned (OpenSpec.upto fnExactMakePuzzleSpec)

/-- 'laws.FnExactSolutions', WHERE WHAT IT READS IS OF BULK AT MOST 1048576: true; the input reads as it did. -/
def fnExactSolutionsUptoRow : OpenClaim := { program := "ytopahhcojncgaaadoor", sum := "dc7b3c31ab6b7b5b1f1794b8adb84bcac839b7ebbe75d2a99e7fc855d5697281", func := "loop.example/g01257/laws.FnExactSolutions", spec := "fnExactSolutions", unfollowed := true, recurses := true, named := ["math/bits.deBruijn32tab"], apart := false, laid := [("math/bits.deBruijn32tab", laid_math_bits_deBruijn32tab)], narrowed := true }
def FnExactSolutionsUptoSaid : Prop := fnExactSolutionsUptoRow.holds Tryd.pinned (OpenSpec.upto fnExactSolutionsSpec)

end Rows
end Go.Proofs.YtopahhcojncgaaaDoor
