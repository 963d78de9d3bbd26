/-
  NARROWER THAN 'FOR EVERY INPUT', by the rows' own cells (each row's printed sentence says how): SpaceTexts: laid · SpaceMovedHalves: laid · SpaceHalves: laid · SpaceFeet: laid · SpaceNearest: laid · SpaceComposed: laid · SpaceTurns: laid · SpaceCrossings: laid · SpaceCoordinates: laid · SpaceLagrange: laid · SpaceFrames: laid · SpacePlanes: laid · SpaceNumbers: laid · SpaceVectors: laid.
  DERIVED. THE GIVEN ROWS OF THIS SEAT. 14 by the template 'for every input the law returns true; each argument reads behind the call as it read before'; 0 by the template 'total and deterministic' (their statements: YtoiejgkkcfkliaaGreatDoorTotals.lean).
  GIVEN WITH THE SEED: the statements are not yours to turn. If you find one false, say at which input.
  Laid BY PROGRAM, IN A SANDBOX (cutbox-rows.mjs): the forced cells as the released guide's own fill.sh prints them over the translation 3b9ae655bd757ee6… (all of the seat's roots in one cut). By AI agents, Wed Nov 11 2026. No macro, syntax, notation, axiom, sorry.
-/
import Derived.Test.YtoiejgkkcfkliaaGreatDoorChecked
import GoSem.Claim
import GoSem.ClaimJoined
import GoSem.ClaimMapViews
import Derived.JoinedTies
import Derived.KernelRfl
namespace Go.Proofs.YtoiejgkkcfkliaaGreatDoor
/- THE CELL 'sum', in the pinned program and in every row, IS THE sha256 OF THE DUMP (.gsa) THAT YtoiejgkkcfkliaaGreatDoorProg.lean LOADS. Nothing in Lean hashes anything: it is a label: what it is worth is what the hold of that sum in a sandbox is worth. -/
noncomputable def Tryz.pinned : Pinned := { name := "ytoiejgkkcfkliaagreatdoor", sum := "3b9ae655bd757ee6a3213447b803f0335d0a794bf885069fe5b4d1c3ff0c860a", checked := Tryz.checked }
namespace Rows
def none {H : Type} : Left H := { results := [], args := [] }

/- WHAT THE LISTED PACKAGE-LEVEL VARIABLES READ AS WHEN THE CALL BEGINS. Each datum BY PROGRAM (the guide's laid-datum.mjs) off the statement by which the dump's own 'gosem.cut.vars' lays the variable. In a bare row this is a premise. The card (YtoiejgkkcfkliaaGreatDoorCards.lean) ties it to the program's text. -/
def laid_math_bits_deBruijn32tab {H : Type} : DataW H := .agg [.lit (.int .u8 0), .lit (.int .u8 1), .lit (.int .u8 28), .lit (.int .u8 2), .lit (.int .u8 29), .lit (.int .u8 14), .lit (.int .u8 24), .lit (.int .u8 3), .lit (.int .u8 30), .lit (.int .u8 22), .lit (.int .u8 20), .lit (.int .u8 15), .lit (.int .u8 25), .lit (.int .u8 17), .lit (.int .u8 4), .lit (.int .u8 8), .lit (.int .u8 31), .lit (.int .u8 27), .lit (.int .u8 13), .lit (.int .u8 23), .lit (.int .u8 21), .lit (.int .u8 19), .lit (.int .u8 16), .lit (.int .u8 7), .lit (.int .u8 26), .lit (.int .u8 12), .lit (.int .u8 18), .lit (.int .u8 6), .lit (.int .u8 11), .lit (.int .u8 5), .lit (.int .u8 10), .lit (.int .u8 9)]
def laid_math_bits_deBruijn64tab {H : Type} : DataW H := .agg [.lit (.int .u8 0), .lit (.int .u8 1), .lit (.int .u8 56), .lit (.int .u8 2), .lit (.int .u8 57), .lit (.int .u8 49), .lit (.int .u8 28), .lit (.int .u8 3), .lit (.int .u8 61), .lit (.int .u8 58), .lit (.int .u8 42), .lit (.int .u8 50), .lit (.int .u8 38), .lit (.int .u8 29), .lit (.int .u8 17), .lit (.int .u8 4), .lit (.int .u8 62), .lit (.int .u8 47), .lit (.int .u8 59), .lit (.int .u8 36), .lit (.int .u8 45), .lit (.int .u8 43), .lit (.int .u8 51), .lit (.int .u8 22), .lit (.int .u8 53), .lit (.int .u8 39), .lit (.int .u8 33), .lit (.int .u8 30), .lit (.int .u8 24), .lit (.int .u8 18), .lit (.int .u8 12), .lit (.int .u8 5), .lit (.int .u8 63), .lit (.int .u8 55), .lit (.int .u8 48), .lit (.int .u8 27), .lit (.int .u8 60), .lit (.int .u8 41), .lit (.int .u8 37), .lit (.int .u8 16), .lit (.int .u8 46), .lit (.int .u8 35), .lit (.int .u8 44), .lit (.int .u8 21), .lit (.int .u8 52), .lit (.int .u8 32), .lit (.int .u8 23), .lit (.int .u8 11), .lit (.int .u8 54), .lit (.int .u8 26), .lit (.int .u8 40), .lit (.int .u8 15), .lit (.int .u8 34), .lit (.int .u8 20), .lit (.int .u8 31), .lit (.int .u8 10), .lit (.int .u8 25), .lit (.int .u8 14), .lit (.int .u8 19), .lit (.int .u8 9), .lit (.int .u8 13), .lit (.int .u8 8), .lit (.int .u8 7), .lit (.int .u8 6)]
def laid_internal_strconv_uint64pow10 {H : Type} : DataW H := .agg [.lit (.int .u64 1), .lit (.int .u64 10), .lit (.int .u64 100), .lit (.int .u64 1000), .lit (.int .u64 10000), .lit (.int .u64 100000), .lit (.int .u64 1000000), .lit (.int .u64 10000000), .lit (.int .u64 100000000), .lit (.int .u64 1000000000), .lit (.int .u64 10000000000), .lit (.int .u64 100000000000), .lit (.int .u64 1000000000000), .lit (.int .u64 10000000000000), .lit (.int .u64 100000000000000), .lit (.int .u64 1000000000000000), .lit (.int .u64 10000000000000000), .lit (.int .u64 100000000000000000), .lit (.int .u64 1000000000000000000), .lit (.int .u64 10000000000000000000)]
def laid_strconv_ErrRange {H : Type} : DataW H := .iface "*errors.errorString" (.ptr (.agg [.lit (.string [118, 97, 108, 117, 101, 32, 111, 117, 116, 32, 111, 102, 32, 114, 97, 110, 103, 101])]))
def laid_strconv_ErrSyntax {H : Type} : DataW H := .iface "*errors.errorString" (.ptr (.agg [.lit (.string [105, 110, 118, 97, 108, 105, 100, 32, 115, 121, 110, 116, 97, 120])]))

/-- 'trunnellaw01.SpaceTexts': WHATEVER THE INPUT: true; the input reads as it did. -/
def spaceTextsSpec : ChangeSpec := { name := "spaceTexts", fn := fun _ => fun
  | [d1, d2, d3] => { results := [.lit (.bool true)], args := [d1, d2, d3] }
  | _ => none }
def spaceTextsRow : OpenClaim := { program := "ytoiejgkkcfkliaagreatdoor", sum := "3b9ae655bd757ee6a3213447b803f0335d0a794bf885069fe5b4d1c3ff0c860a", func := "trunnel/trunnellaw01.SpaceTexts", spec := "spaceTexts", inPlace := ["internal/bytealg.IndexByteString", "internal/bytealg.IndexString", "math/bits.Add64", "math/bits.Sub64", "internal/abi.NoEscape", "internal/bytealg.MakeNoZero"], unfollowed := true, recurses := true, named := ["internal/bytealg.MaxLen", "strconv.ErrSyntax", "strconv.ErrRange", "internal/strconv.uint64pow10", "math/bits.deBruijn32tab", "math/bits.deBruijn64tab", "math/bits.divideError", "math/bits.overflowError"], apart := false, laid := [("math/bits.deBruijn32tab", laid_math_bits_deBruijn32tab), ("math/bits.deBruijn64tab", laid_math_bits_deBruijn64tab), ("internal/strconv.uint64pow10", laid_internal_strconv_uint64pow10), ("strconv.ErrRange", laid_strconv_ErrRange), ("strconv.ErrSyntax", laid_strconv_ErrSyntax)] }
def SpaceTextsSaid : Prop := spaceTextsRow.holds Tryz.pinned (OpenSpec.ofChange spaceTextsSpec)

/-- ITS FALSE NEIGHBOUR: 'it returns false'. Refute it at one input. -/
def spaceTextsWrong : ChangeSpec := { name := "spaceTexts", fn := fun _ => fun
  | [d1, d2, d3] => { results := [.lit (.bool false)], args := [d1, d2, d3] }
  | _ => none }
def SpaceTextsWrongFalsely : Prop := spaceTextsRow.holds Tryz.pinned (OpenSpec.ofChange spaceTextsWrong)

/-- 'trunnellaw01.SpaceMovedHalves': WHATEVER THE INPUT: true; the input reads as it did. -/
def spaceMovedHalvesSpec : ChangeSpec := { name := "spaceMovedHalves", fn := fun _ => fun
  | [d1, d2] => { results := [.lit (.bool true)], args := [d1, d2] }
  | _ => none }
def spaceMovedHalvesRow : OpenClaim := { program := "ytoiejgkkcfkliaagreatdoor", sum := "3b9ae655bd757ee6a3213447b803f0335d0a794bf885069fe5b4d1c3ff0c860a", func := "trunnel/trunnellaw01.SpaceMovedHalves", spec := "spaceMovedHalves", inPlace := ["internal/bytealg.IndexByteString", "internal/bytealg.IndexString", "math/bits.Add64", "math/bits.Sub64", "internal/abi.NoEscape", "internal/bytealg.MakeNoZero"], unfollowed := true, recurses := true, named := ["internal/bytealg.MaxLen", "strconv.ErrSyntax", "strconv.ErrRange", "internal/strconv.uint64pow10", "math/bits.deBruijn32tab", "math/bits.deBruijn64tab", "math/bits.divideError", "math/bits.overflowError"], apart := false, laid := [("math/bits.deBruijn32tab", laid_math_bits_deBruijn32tab), ("math/bits.deBruijn64tab", laid_math_bits_deBruijn64tab), ("internal/strconv.uint64pow10", laid_internal_strconv_uint64pow10), ("strconv.ErrRange", laid_strconv_ErrRange), ("strconv.ErrSyntax", laid_strconv_ErrSyntax)] }
def SpaceMovedHalvesSaid : Prop := spaceMovedHalvesRow.holds Tryz.pinned (OpenSpec.ofChange spaceMovedHalvesSpec)

/-- ITS FALSE NEIGHBOUR: 'it returns false'. Refute it at one input. -/
def spaceMovedHalvesWrong : ChangeSpec := { name := "spaceMovedHalves", fn := fun _ => fun
  | [d1, d2] => { results := [.lit (.bool false)], args := [d1, d2] }
  | _ => none }
def SpaceMovedHalvesWrongFalsely : Prop := spaceMovedHalvesRow.holds Tryz.pinned (OpenSpec.ofChange spaceMovedHalvesWrong)

/-- 'trunnellaw01.SpaceHalves': WHATEVER THE INPUT: true; the input reads as it did. -/
def spaceHalvesSpec : ChangeSpec := { name := "spaceHalves", fn := fun _ => fun
  | [d1, d2, d3] => { results := [.lit (.bool true)], args := [d1, d2, d3] }
  | _ => none }
def spaceHalvesRow : OpenClaim := { program := "ytoiejgkkcfkliaagreatdoor", sum := "3b9ae655bd757ee6a3213447b803f0335d0a794bf885069fe5b4d1c3ff0c860a", func := "trunnel/trunnellaw01.SpaceHalves", spec := "spaceHalves", inPlace := ["internal/bytealg.IndexByteString", "internal/bytealg.IndexString", "math/bits.Add64", "math/bits.Sub64", "internal/abi.NoEscape", "internal/bytealg.MakeNoZero"], unfollowed := true, recurses := true, named := ["internal/bytealg.MaxLen", "strconv.ErrSyntax", "strconv.ErrRange", "internal/strconv.uint64pow10", "math/bits.deBruijn32tab", "math/bits.deBruijn64tab", "math/bits.divideError", "math/bits.overflowError"], apart := false, laid := [("math/bits.deBruijn32tab", laid_math_bits_deBruijn32tab), ("math/bits.deBruijn64tab", laid_math_bits_deBruijn64tab), ("internal/strconv.uint64pow10", laid_internal_strconv_uint64pow10), ("strconv.ErrRange", laid_strconv_ErrRange), ("strconv.ErrSyntax", laid_strconv_ErrSyntax)] }
def SpaceHalvesSaid : Prop := spaceHalvesRow.holds Tryz.pinned (OpenSpec.ofChange spaceHalvesSpec)

/-- ITS FALSE NEIGHBOUR: 'it returns false'. Refute it at one input. -/
def spaceHalvesWrong : ChangeSpec := { name := "spaceHalves", fn := fun _ => fun
  | [d1, d2, d3] => { results := [.lit (.bool false)], args := [d1, d2, d3] }
  | _ => none }
def SpaceHalvesWrongFalsely : Prop := spaceHalvesRow.holds Tryz.pinned (OpenSpec.ofChange spaceHalvesWrong)

/-- 'trunnellaw01.SpaceFeet': WHATEVER THE INPUT: true; the input reads as it did. -/
def spaceFeetSpec : ChangeSpec := { name := "spaceFeet", fn := fun _ => fun
  | [d1, d2, d3] => { results := [.lit (.bool true)], args := [d1, d2, d3] }
  | _ => none }
def spaceFeetRow : OpenClaim := { program := "ytoiejgkkcfkliaagreatdoor", sum := "3b9ae655bd757ee6a3213447b803f0335d0a794bf885069fe5b4d1c3ff0c860a", func := "trunnel/trunnellaw01.SpaceFeet", spec := "spaceFeet", inPlace := ["internal/bytealg.IndexByteString", "internal/bytealg.IndexString", "math/bits.Add64", "math/bits.Sub64", "internal/abi.NoEscape", "internal/bytealg.MakeNoZero"], unfollowed := true, recurses := true, named := ["internal/bytealg.MaxLen", "strconv.ErrSyntax", "strconv.ErrRange", "internal/strconv.uint64pow10", "math/bits.deBruijn32tab", "math/bits.deBruijn64tab", "math/bits.divideError", "math/bits.overflowError"], apart := false, laid := [("math/bits.deBruijn32tab", laid_math_bits_deBruijn32tab), ("math/bits.deBruijn64tab", laid_math_bits_deBruijn64tab), ("internal/strconv.uint64pow10", laid_internal_strconv_uint64pow10), ("strconv.ErrRange", laid_strconv_ErrRange), ("strconv.ErrSyntax", laid_strconv_ErrSyntax)] }
def SpaceFeetSaid : Prop := spaceFeetRow.holds Tryz.pinned (OpenSpec.ofChange spaceFeetSpec)

/-- ITS FALSE NEIGHBOUR: 'it returns false'. Refute it at one input. -/
def spaceFeetWrong : ChangeSpec := { name := "spaceFeet", fn := fun _ => fun
  | [d1, d2, d3] => { results := [.lit (.bool false)], args := [d1, d2, d3] }
  | _ => none }
def SpaceFeetWrongFalsely : Prop := spaceFeetRow.holds Tryz.pinned (OpenSpec.ofChange spaceFeetWrong)

/-- 'trunnellaw01.SpaceNearest': WHATEVER THE INPUT: true; the input reads as it did. -/
def spaceNearestSpec : ChangeSpec := { name := "spaceNearest", fn := fun _ => fun
  | [d1, d2, d3] => { results := [.lit (.bool true)], args := [d1, d2, d3] }
  | _ => none }
def spaceNearestRow : OpenClaim := { program := "ytoiejgkkcfkliaagreatdoor", sum := "3b9ae655bd757ee6a3213447b803f0335d0a794bf885069fe5b4d1c3ff0c860a", func := "trunnel/trunnellaw01.SpaceNearest", spec := "spaceNearest", inPlace := ["internal/bytealg.IndexByteString", "internal/bytealg.IndexString", "math/bits.Add64", "math/bits.Sub64", "internal/abi.NoEscape", "internal/bytealg.MakeNoZero"], unfollowed := true, recurses := true, named := ["internal/bytealg.MaxLen", "strconv.ErrSyntax", "strconv.ErrRange", "internal/strconv.uint64pow10", "math/bits.deBruijn32tab", "math/bits.deBruijn64tab", "math/bits.divideError", "math/bits.overflowError"], apart := false, laid := [("math/bits.deBruijn32tab", laid_math_bits_deBruijn32tab), ("math/bits.deBruijn64tab", laid_math_bits_deBruijn64tab), ("internal/strconv.uint64pow10", laid_internal_strconv_uint64pow10), ("strconv.ErrRange", laid_strconv_ErrRange), ("strconv.ErrSyntax", laid_strconv_ErrSyntax)] }
def SpaceNearestSaid : Prop := spaceNearestRow.holds Tryz.pinned (OpenSpec.ofChange spaceNearestSpec)

/-- ITS FALSE NEIGHBOUR: 'it returns false'. Refute it at one input. -/
def spaceNearestWrong : ChangeSpec := { name := "spaceNearest", fn := fun _ => fun
  | [d1, d2, d3] => { results := [.lit (.bool false)], args := [d1, d2, d3] }
  | _ => none }
def SpaceNearestWrongFalsely : Prop := spaceNearestRow.holds Tryz.pinned (OpenSpec.ofChange spaceNearestWrong)

/-- 'trunnellaw01.SpaceComposed': WHATEVER THE INPUT: true; the input reads as it did. -/
def spaceComposedSpec : ChangeSpec := { name := "spaceComposed", fn := fun _ => fun
  | [d1, d2, d3] => { results := [.lit (.bool true)], args := [d1, d2, d3] }
  | _ => none }
def spaceComposedRow : OpenClaim := { program := "ytoiejgkkcfkliaagreatdoor", sum := "3b9ae655bd757ee6a3213447b803f0335d0a794bf885069fe5b4d1c3ff0c860a", func := "trunnel/trunnellaw01.SpaceComposed", spec := "spaceComposed", inPlace := ["internal/bytealg.IndexByteString", "internal/bytealg.IndexString", "math/bits.Add64", "math/bits.Sub64", "internal/abi.NoEscape", "internal/bytealg.MakeNoZero"], unfollowed := true, recurses := true, named := ["internal/bytealg.MaxLen", "strconv.ErrSyntax", "strconv.ErrRange", "internal/strconv.uint64pow10", "math/bits.deBruijn32tab", "math/bits.deBruijn64tab", "math/bits.divideError", "math/bits.overflowError"], apart := false, laid := [("math/bits.deBruijn32tab", laid_math_bits_deBruijn32tab), ("math/bits.deBruijn64tab", laid_math_bits_deBruijn64tab), ("internal/strconv.uint64pow10", laid_internal_strconv_uint64pow10), ("strconv.ErrRange", laid_strconv_ErrRange), ("strconv.ErrSyntax", laid_strconv_ErrSyntax)] }
def SpaceComposedSaid : Prop := spaceComposedRow.holds Tryz.pinned (OpenSpec.ofChange spaceComposedSpec)

/-- ITS FALSE NEIGHBOUR: 'it returns false'. Refute it at one input. -/
def spaceComposedWrong : ChangeSpec := { name := "spaceComposed", fn := fun _ => fun
  | [d1, d2, d3] => { results := [.lit (.bool false)], args := [d1, d2, d3] }
  | _ => none }
def SpaceComposedWrongFalsely : Prop := spaceComposedRow.holds Tryz.pinned (OpenSpec.ofChange spaceComposedWrong)

/-- 'trunnellaw01.SpaceTurns': WHATEVER THE INPUT: true; the input reads as it did. -/
def spaceTurnsSpec : ChangeSpec := { name := "spaceTurns", fn := fun _ => fun
  | [d1, d2, d3] => { results := [.lit (.bool true)], args := [d1, d2, d3] }
  | _ => none }
def spaceTurnsRow : OpenClaim := { program := "ytoiejgkkcfkliaagreatdoor", sum := "3b9ae655bd757ee6a3213447b803f0335d0a794bf885069fe5b4d1c3ff0c860a", func := "trunnel/trunnellaw01.SpaceTurns", spec := "spaceTurns", inPlace := ["internal/bytealg.IndexByteString", "internal/bytealg.IndexString", "math/bits.Add64", "math/bits.Sub64", "internal/abi.NoEscape", "internal/bytealg.MakeNoZero"], unfollowed := true, recurses := true, named := ["internal/bytealg.MaxLen", "strconv.ErrSyntax", "strconv.ErrRange", "internal/strconv.uint64pow10", "math/bits.deBruijn32tab", "math/bits.deBruijn64tab", "math/bits.divideError", "math/bits.overflowError"], apart := false, laid := [("math/bits.deBruijn32tab", laid_math_bits_deBruijn32tab), ("math/bits.deBruijn64tab", laid_math_bits_deBruijn64tab), ("internal/strconv.uint64pow10", laid_internal_strconv_uint64pow10), ("strconv.ErrRange", laid_strconv_ErrRange), ("strconv.ErrSyntax", laid_strconv_ErrSyntax)] }
def SpaceTurnsSaid : Prop := spaceTurnsRow.holds Tryz.pinned (OpenSpec.ofChange spaceTurnsSpec)

/-- ITS FALSE NEIGHBOUR: 'it returns false'. Refute it at one input. -/
def spaceTurnsWrong : ChangeSpec := { name := "spaceTurns", fn := fun _ => fun
  | [d1, d2, d3] => { results := [.lit (.bool false)], args := [d1, d2, d3] }
  | _ => none }
def SpaceTurnsWrongFalsely : Prop := spaceTurnsRow.holds Tryz.pinned (OpenSpec.ofChange spaceTurnsWrong)

/-- 'trunnellaw01.SpaceCrossings': WHATEVER THE INPUT: true; the input reads as it did. -/
def spaceCrossingsSpec : ChangeSpec := { name := "spaceCrossings", fn := fun _ => fun
  | [d] => { results := [.lit (.bool true)], args := [d] }
  | _ => none }
def spaceCrossingsRow : OpenClaim := { program := "ytoiejgkkcfkliaagreatdoor", sum := "3b9ae655bd757ee6a3213447b803f0335d0a794bf885069fe5b4d1c3ff0c860a", func := "trunnel/trunnellaw01.SpaceCrossings", spec := "spaceCrossings", inPlace := ["internal/bytealg.IndexByteString", "internal/bytealg.IndexString", "math/bits.Add64", "math/bits.Sub64", "internal/abi.NoEscape", "internal/bytealg.MakeNoZero"], unfollowed := true, recurses := true, named := ["internal/bytealg.MaxLen", "strconv.ErrSyntax", "strconv.ErrRange", "internal/strconv.uint64pow10", "math/bits.deBruijn32tab", "math/bits.deBruijn64tab", "math/bits.divideError", "math/bits.overflowError"], apart := false, laid := [("math/bits.deBruijn32tab", laid_math_bits_deBruijn32tab), ("math/bits.deBruijn64tab", laid_math_bits_deBruijn64tab), ("internal/strconv.uint64pow10", laid_internal_strconv_uint64pow10), ("strconv.ErrRange", laid_strconv_ErrRange), ("strconv.ErrSyntax", laid_strconv_ErrSyntax)] }
def SpaceCrossingsSaid : Prop := spaceCrossingsRow.holds Tryz.pinned (OpenSpec.ofChange spaceCrossingsSpec)

/-- ITS FALSE NEIGHBOUR: 'it returns false'. Refute it at one input. -/
def spaceCrossingsWrong : ChangeSpec := { name := "spaceCrossings", fn := fun _ => fun
  | [d] => { results := [.lit (.bool false)], args := [d] }
  | _ => none }
def SpaceCrossingsWrongFalsely : Prop := spaceCrossingsRow.holds Tryz.pinned (OpenSpec.ofChange spaceCrossingsWrong)

/-- 'trunnellaw01.SpaceCoordinates': WHATEVER THE INPUT: true; the input reads as it did. -/
def spaceCoordinatesSpec : ChangeSpec := { name := "spaceCoordinates", fn := fun _ => fun
  | [d1, d2, d3] => { results := [.lit (.bool true)], args := [d1, d2, d3] }
  | _ => none }
def spaceCoordinatesRow : OpenClaim := { program := "ytoiejgkkcfkliaagreatdoor", sum := "3b9ae655bd757ee6a3213447b803f0335d0a794bf885069fe5b4d1c3ff0c860a", func := "trunnel/trunnellaw01.SpaceCoordinates", spec := "spaceCoordinates", inPlace := ["internal/bytealg.IndexByteString", "internal/bytealg.IndexString", "math/bits.Add64", "math/bits.Sub64", "internal/abi.NoEscape", "internal/bytealg.MakeNoZero"], unfollowed := true, recurses := true, named := ["internal/bytealg.MaxLen", "strconv.ErrSyntax", "strconv.ErrRange", "internal/strconv.uint64pow10", "math/bits.deBruijn32tab", "math/bits.deBruijn64tab", "math/bits.divideError", "math/bits.overflowError"], apart := false, laid := [("math/bits.deBruijn32tab", laid_math_bits_deBruijn32tab), ("math/bits.deBruijn64tab", laid_math_bits_deBruijn64tab), ("internal/strconv.uint64pow10", laid_internal_strconv_uint64pow10), ("strconv.ErrRange", laid_strconv_ErrRange), ("strconv.ErrSyntax", laid_strconv_ErrSyntax)] }
def SpaceCoordinatesSaid : Prop := spaceCoordinatesRow.holds Tryz.pinned (OpenSpec.ofChange spaceCoordinatesSpec)

/-- ITS FALSE NEIGHBOUR: 'it returns false'. Refute it at one input. -/
def spaceCoordinatesWrong : ChangeSpec := { name := "spaceCoordinates", fn := fun _ => fun
  | [d1, d2, d3] => { results := [.lit (.bool false)], args := [d1, d2, d3] }
  | _ => none }
def SpaceCoordinatesWrongFalsely : Prop := spaceCoordinatesRow.holds Tryz.pinned (OpenSpec.ofChange spaceCoordinatesWrong)

/-- 'trunnellaw01.SpaceLagrange': WHATEVER THE INPUT: true; the input reads as it did. -/
def spaceLagrangeSpec : ChangeSpec := { name := "spaceLagrange", fn := fun _ => fun
  | [d1, d2, d3] => { results := [.lit (.bool true)], args := [d1, d2, d3] }
  | _ => none }
def spaceLagrangeRow : OpenClaim := { program := "ytoiejgkkcfkliaagreatdoor", sum := "3b9ae655bd757ee6a3213447b803f0335d0a794bf885069fe5b4d1c3ff0c860a", func := "trunnel/trunnellaw01.SpaceLagrange", spec := "spaceLagrange", inPlace := ["internal/bytealg.IndexByteString", "internal/bytealg.IndexString", "math/bits.Add64", "math/bits.Sub64", "internal/abi.NoEscape", "internal/bytealg.MakeNoZero"], unfollowed := true, recurses := true, named := ["internal/bytealg.MaxLen", "strconv.ErrSyntax", "strconv.ErrRange", "internal/strconv.uint64pow10", "math/bits.deBruijn32tab", "math/bits.deBruijn64tab", "math/bits.divideError", "math/bits.overflowError"], apart := false, laid := [("math/bits.deBruijn32tab", laid_math_bits_deBruijn32tab), ("math/bits.deBruijn64tab", laid_math_bits_deBruijn64tab), ("internal/strconv.uint64pow10", laid_internal_strconv_uint64pow10), ("strconv.ErrRange", laid_strconv_ErrRange), ("strconv.ErrSyntax", laid_strconv_ErrSyntax)] }
def SpaceLagrangeSaid : Prop := spaceLagrangeRow.holds Tryz.pinned (OpenSpec.ofChange spaceLagrangeSpec)

/-- ITS FALSE NEIGHBOUR: 'it returns false'. Refute it at one input. -/
def spaceLagrangeWrong : ChangeSpec := { name := "spaceLagrange", fn := fun _ => fun
  | [d1, d2, d3] => { results := [.lit (.bool false)], args := [d1, d2, d3] }
  | _ => none }
def SpaceLagrangeWrongFalsely : Prop := spaceLagrangeRow.holds Tryz.pinned (OpenSpec.ofChange spaceLagrangeWrong)

/-- 'trunnellaw01.SpaceFrames': WHATEVER THE INPUT: true; the input reads as it did. -/
def spaceFramesSpec : ChangeSpec := { name := "spaceFrames", fn := fun _ => fun
  | [d1, d2] => { results := [.lit (.bool true)], args := [d1, d2] }
  | _ => none }
def spaceFramesRow : OpenClaim := { program := "ytoiejgkkcfkliaagreatdoor", sum := "3b9ae655bd757ee6a3213447b803f0335d0a794bf885069fe5b4d1c3ff0c860a", func := "trunnel/trunnellaw01.SpaceFrames", spec := "spaceFrames", inPlace := ["internal/bytealg.IndexByteString", "internal/bytealg.IndexString", "math/bits.Add64", "math/bits.Sub64", "internal/abi.NoEscape", "internal/bytealg.MakeNoZero"], unfollowed := true, recurses := true, named := ["internal/bytealg.MaxLen", "strconv.ErrSyntax", "strconv.ErrRange", "internal/strconv.uint64pow10", "math/bits.deBruijn32tab", "math/bits.deBruijn64tab", "math/bits.divideError", "math/bits.overflowError"], apart := false, laid := [("math/bits.deBruijn32tab", laid_math_bits_deBruijn32tab), ("math/bits.deBruijn64tab", laid_math_bits_deBruijn64tab), ("internal/strconv.uint64pow10", laid_internal_strconv_uint64pow10), ("strconv.ErrRange", laid_strconv_ErrRange), ("strconv.ErrSyntax", laid_strconv_ErrSyntax)] }
def SpaceFramesSaid : Prop := spaceFramesRow.holds Tryz.pinned (OpenSpec.ofChange spaceFramesSpec)

/-- ITS FALSE NEIGHBOUR: 'it returns false'. Refute it at one input. -/
def spaceFramesWrong : ChangeSpec := { name := "spaceFrames", fn := fun _ => fun
  | [d1, d2] => { results := [.lit (.bool false)], args := [d1, d2] }
  | _ => none }
def SpaceFramesWrongFalsely : Prop := spaceFramesRow.holds Tryz.pinned (OpenSpec.ofChange spaceFramesWrong)

/-- 'trunnellaw01.SpacePlanes': WHATEVER THE INPUT: true; the input reads as it did. -/
def spacePlanesSpec : ChangeSpec := { name := "spacePlanes", fn := fun _ => fun
  | [d] => { results := [.lit (.bool true)], args := [d] }
  | _ => none }
def spacePlanesRow : OpenClaim := { program := "ytoiejgkkcfkliaagreatdoor", sum := "3b9ae655bd757ee6a3213447b803f0335d0a794bf885069fe5b4d1c3ff0c860a", func := "trunnel/trunnellaw01.SpacePlanes", spec := "spacePlanes", inPlace := ["internal/bytealg.IndexByteString", "internal/bytealg.IndexString", "math/bits.Add64", "math/bits.Sub64", "internal/abi.NoEscape", "internal/bytealg.MakeNoZero"], unfollowed := true, recurses := true, named := ["internal/bytealg.MaxLen", "strconv.ErrSyntax", "strconv.ErrRange", "internal/strconv.uint64pow10", "math/bits.deBruijn32tab", "math/bits.deBruijn64tab", "math/bits.divideError", "math/bits.overflowError"], apart := false, laid := [("math/bits.deBruijn32tab", laid_math_bits_deBruijn32tab), ("math/bits.deBruijn64tab", laid_math_bits_deBruijn64tab), ("internal/strconv.uint64pow10", laid_internal_strconv_uint64pow10), ("strconv.ErrRange", laid_strconv_ErrRange), ("strconv.ErrSyntax", laid_strconv_ErrSyntax)] }
def SpacePlanesSaid : Prop := spacePlanesRow.holds Tryz.pinned (OpenSpec.ofChange spacePlanesSpec)

/-- ITS FALSE NEIGHBOUR: 'it returns false'. Refute it at one input. -/
def spacePlanesWrong : ChangeSpec := { name := "spacePlanes", fn := fun _ => fun
  | [d] => { results := [.lit (.bool false)], args := [d] }
  | _ => none }
def SpacePlanesWrongFalsely : Prop := spacePlanesRow.holds Tryz.pinned (OpenSpec.ofChange spacePlanesWrong)

/-- 'trunnellaw01.SpaceNumbers': WHATEVER THE INPUT: true; the input reads as it did. -/
def spaceNumbersSpec : ChangeSpec := { name := "spaceNumbers", fn := fun _ => fun
  | [d1, d2] => { results := [.lit (.bool true)], args := [d1, d2] }
  | _ => none }
def spaceNumbersRow : OpenClaim := { program := "ytoiejgkkcfkliaagreatdoor", sum := "3b9ae655bd757ee6a3213447b803f0335d0a794bf885069fe5b4d1c3ff0c860a", func := "trunnel/trunnellaw01.SpaceNumbers", spec := "spaceNumbers", inPlace := ["internal/bytealg.IndexByteString", "internal/bytealg.IndexString", "math/bits.Add64", "math/bits.Sub64", "internal/abi.NoEscape", "internal/bytealg.MakeNoZero"], unfollowed := true, recurses := true, named := ["internal/bytealg.MaxLen", "strconv.ErrSyntax", "strconv.ErrRange", "internal/strconv.uint64pow10", "math/bits.deBruijn32tab", "math/bits.deBruijn64tab", "math/bits.divideError", "math/bits.overflowError"], apart := false, laid := [("math/bits.deBruijn32tab", laid_math_bits_deBruijn32tab), ("math/bits.deBruijn64tab", laid_math_bits_deBruijn64tab), ("internal/strconv.uint64pow10", laid_internal_strconv_uint64pow10), ("strconv.ErrRange", laid_strconv_ErrRange), ("strconv.ErrSyntax", laid_strconv_ErrSyntax)] }
def SpaceNumbersSaid : Prop := spaceNumbersRow.holds Tryz.pinned (OpenSpec.ofChange spaceNumbersSpec)

/-- ITS FALSE NEIGHBOUR: 'it returns false'. Refute it at one input. -/
def spaceNumbersWrong : ChangeSpec := { name := "spaceNumbers", fn := fun _ => fun
  | [d1, d2] => { results := [.lit (.bool false)], args := [d1, d2] }
  | _ => none }
def SpaceNumbersWrongFalsely : Prop := spaceNumbersRow.holds Tryz.pinned (OpenSpec.ofChange spaceNumbersWrong)

/-- 'trunnellaw01.SpaceVectors': WHATEVER THE INPUT: true; the input reads as it did. -/
def spaceVectorsSpec : ChangeSpec := { name := "spaceVectors", fn := fun _ => fun
  | [d1, d2, d3] => { results := [.lit (.bool true)], args := [d1, d2, d3] }
  | _ => none }
def spaceVectorsRow : OpenClaim := { program := "ytoiejgkkcfkliaagreatdoor", sum := "3b9ae655bd757ee6a3213447b803f0335d0a794bf885069fe5b4d1c3ff0c860a", func := "trunnel/trunnellaw01.SpaceVectors", spec := "spaceVectors", inPlace := ["internal/bytealg.IndexByteString", "internal/bytealg.IndexString", "math/bits.Add64", "math/bits.Sub64", "internal/abi.NoEscape", "internal/bytealg.MakeNoZero"], unfollowed := true, recurses := true, named := ["internal/bytealg.MaxLen", "strconv.ErrSyntax", "strconv.ErrRange", "internal/strconv.uint64pow10", "math/bits.deBruijn32tab", "math/bits.deBruijn64tab", "math/bits.divideError", "math/bits.overflowError"], apart := false, laid := [("math/bits.deBruijn32tab", laid_math_bits_deBruijn32tab), ("math/bits.deBruijn64tab", laid_math_bits_deBruijn64tab), ("internal/strconv.uint64pow10", laid_internal_strconv_uint64pow10), ("strconv.ErrRange", laid_strconv_ErrRange), ("strconv.ErrSyntax", laid_strconv_ErrSyntax)] }
def SpaceVectorsSaid : Prop := spaceVectorsRow.holds Tryz.pinned (OpenSpec.ofChange spaceVectorsSpec)

/-- ITS FALSE NEIGHBOUR: 'it returns false'. Refute it at one input. -/
def spaceVectorsWrong : ChangeSpec := { name := "spaceVectors", fn := fun _ => fun
  | [d1, d2, d3] => { results := [.lit (.bool false)], args := [d1, d2, d3] }
  | _ => none }
def SpaceVectorsWrongFalsely : Prop := spaceVectorsRow.holds Tryz.pinned (OpenSpec.ofChange spaceVectorsWrong)

/- THE SECOND FORM. 'bulk': how many values and letters a reading holds, each counted each time it is reached (what is shared counts as often as it is met; a slice's spare places count too). A statement '..UptoSaid' is the law's where the arguments, and the package variables that the reading takes, are together of bulk at most 1048576: NARROWER than '..Said'. Prove '..Said' where nothing that the law and all that it calls make is longer than what came in: it says more and counts as full. Else prove '..UptoSaid'. A law counts once. -/
mutual
def uptoBulk {H : Type} : DataW H → Nat
  | .lit (.string bytes) => bytes.length + 1
  | .lit _ => 1
  | .nil => 1
  | .ptr d => uptoBulk d + 1
  | .slice elems spare => uptoBulkAll elems + uptoBulkAll spare + 1
  | .agg parts => uptoBulkAll parts + 1
  | .iface _ d => uptoBulk d + 1
  | .map entries => uptoBulkEntries entries + 1
  | .held _ => 1
def uptoBulkAll {H : Type} : List (DataW H) → Nat
  | [] => 0
  | d :: r => uptoBulk d + uptoBulkAll r
def uptoBulkEntries {H : Type} : List (Lit × DataW H) → Nat
  | [] => 0
  | x :: r => uptoBulkEntry x + uptoBulkEntries r
def uptoBulkEntry {H : Type} : Lit × DataW H → Nat
  | (.string bytes, d) => bytes.length + uptoBulk d + 1
  | (_, d) => uptoBulk d + 1
 end
def uptoSmall : (H : Type) → List (DataW H) → Bool := fun _ ds => decide (uptoBulkAll ds ≤ 1048576)
def OpenSpec.upto (s : _root_.Go.ChangeSpec) : _root_.Go.OpenSpec := { _root_.Go.OpenSpec.ofChange s with cond := some uptoSmall }

/-- 'trunnellaw01.SpaceTexts', WHERE WHAT IT READS IS OF BULK AT MOST 1048576: true; the input reads as it did. -/
def spaceTextsUptoRow : OpenClaim := { program := "ytoiejgkkcfkliaagreatdoor", sum := "3b9ae655bd757ee6a3213447b803f0335d0a794bf885069fe5b4d1c3ff0c860a", func := "trunnel/trunnellaw01.SpaceTexts", spec := "spaceTexts", inPlace := ["internal/bytealg.IndexByteString", "internal/bytealg.IndexString", "math/bits.Add64", "math/bits.Sub64", "internal/abi.NoEscape", "internal/bytealg.MakeNoZero"], unfollowed := true, recurses := true, named := ["internal/bytealg.MaxLen", "strconv.ErrSyntax", "strconv.ErrRange", "internal/strconv.uint64pow10", "math/bits.deBruijn32tab", "math/bits.deBruijn64tab", "math/bits.divideError", "math/bits.overflowError"], apart := false, laid := [("math/bits.deBruijn32tab", laid_math_bits_deBruijn32tab), ("math/bits.deBruijn64tab", laid_math_bits_deBruijn64tab), ("internal/strconv.uint64pow10", laid_internal_strconv_uint64pow10), ("strconv.ErrRange", laid_strconv_ErrRange), ("strconv.ErrSyntax", laid_strconv_ErrSyntax)], narrowed := true }
def SpaceTextsUptoSaid : Prop := spaceTextsUptoRow.holds Tryz.pinned (OpenSpec.upto spaceTextsSpec)

/-- 'trunnellaw01.SpaceMovedHalves', WHERE WHAT IT READS IS OF BULK AT MOST 1048576: true; the input reads as it did. -/
def spaceMovedHalvesUptoRow : OpenClaim := { program := "ytoiejgkkcfkliaagreatdoor", sum := "3b9ae655bd757ee6a3213447b803f0335d0a794bf885069fe5b4d1c3ff0c860a", func := "trunnel/trunnellaw01.SpaceMovedHalves", spec := "spaceMovedHalves", inPlace := ["internal/bytealg.IndexByteString", "internal/bytealg.IndexString", "math/bits.Add64", "math/bits.Sub64", "internal/abi.NoEscape", "internal/bytealg.MakeNoZero"], unfollowed := true, recurses := true, named := ["internal/bytealg.MaxLen", "strconv.ErrSyntax", "strconv.ErrRange", "internal/strconv.uint64pow10", "math/bits.deBruijn32tab", "math/bits.deBruijn64tab", "math/bits.divideError", "math/bits.overflowError"], apart := false, laid := [("math/bits.deBruijn32tab", laid_math_bits_deBruijn32tab), ("math/bits.deBruijn64tab", laid_math_bits_deBruijn64tab), ("internal/strconv.uint64pow10", laid_internal_strconv_uint64pow10), ("strconv.ErrRange", laid_strconv_ErrRange), ("strconv.ErrSyntax", laid_strconv_ErrSyntax)], narrowed := true }
def SpaceMovedHalvesUptoSaid : Prop := spaceMovedHalvesUptoRow.holds Tryz.pinned (OpenSpec.upto spaceMovedHalvesSpec)

/-- 'trunnellaw01.SpaceHalves', WHERE WHAT IT READS IS OF BULK AT MOST 1048576: true; the input reads as it did. -/
def spaceHalvesUptoRow : OpenClaim := { program := "ytoiejgkkcfkliaagreatdoor", sum := "3b9ae655bd757ee6a3213447b803f0335d0a794bf885069fe5b4d1c3ff0c860a", func := "trunnel/trunnellaw01.SpaceHalves", spec := "spaceHalves", inPlace := ["internal/bytealg.IndexByteString", "internal/bytealg.IndexString", "math/bits.Add64", "math/bits.Sub64", "internal/abi.NoEscape", "internal/bytealg.MakeNoZero"], unfollowed := true, recurses := true, named := ["internal/bytealg.MaxLen", "strconv.ErrSyntax", "strconv.ErrRange", "internal/strconv.uint64pow10", "math/bits.deBruijn32tab", "math/bits.deBruijn64tab", "math/bits.divideError", "math/bits.overflowError"], apart := false, laid := [("math/bits.deBruijn32tab", laid_math_bits_deBruijn32tab), ("math/bits.deBruijn64tab", laid_math_bits_deBruijn64tab), ("internal/strconv.uint64pow10", laid_internal_strconv_uint64pow10), ("strconv.ErrRange", laid_strconv_ErrRange), ("strconv.ErrSyntax", laid_strconv_ErrSyntax)], narrowed := true }
def SpaceHalvesUptoSaid : Prop := spaceHalvesUptoRow.holds Tryz.pinned (OpenSpec.upto spaceHalvesSpec)

/-- 'trunnellaw01.SpaceFeet', WHERE WHAT IT READS IS OF BULK AT MOST 1048576: true; the input reads as it did. -/
def spaceFeetUptoRow : OpenClaim := { program := "ytoiejgkkcfkliaagreatdoor", sum := "3b9ae655bd757ee6a3213447b803f0335d0a794bf885069fe5b4d1c3ff0c860a", func := "trunnel/trunnellaw01.SpaceFeet", spec := "spaceFeet", inPlace := ["internal/bytealg.IndexByteString", "internal/bytealg.IndexString", "math/bits.Add64", "math/bits.Sub64", "internal/abi.NoEscape", "internal/bytealg.MakeNoZero"], unfollowed := true, recurses := true, named := ["internal/bytealg.MaxLen", "strconv.ErrSyntax", "strconv.ErrRange", "internal/strconv.uint64pow10", "math/bits.deBruijn32tab", "math/bits.deBruijn64tab", "math/bits.divideError", "math/bits.overflowError"], apart := false, laid := [("math/bits.deBruijn32tab", laid_math_bits_deBruijn32tab), ("math/bits.deBruijn64tab", laid_math_bits_deBruijn64tab), ("internal/strconv.uint64pow10", laid_internal_strconv_uint64pow10), ("strconv.ErrRange", laid_strconv_ErrRange), ("strconv.ErrSyntax", laid_strconv_ErrSyntax)], narrowed := true }
def SpaceFeetUptoSaid : Prop := spaceFeetUptoRow.holds Tryz.pinned (OpenSpec.upto spaceFeetSpec)

/-- 'trunnellaw01.SpaceNearest', WHERE WHAT IT READS IS OF BULK AT MOST 1048576: true; the input reads as it did. -/
def spaceNearestUptoRow : OpenClaim := { program := "ytoiejgkkcfkliaagreatdoor", sum := "3b9ae655bd757ee6a3213447b803f0335d0a794bf885069fe5b4d1c3ff0c860a", func := "trunnel/trunnellaw01.SpaceNearest", spec := "spaceNearest", inPlace := ["internal/bytealg.IndexByteString", "internal/bytealg.IndexString", "math/bits.Add64", "math/bits.Sub64", "internal/abi.NoEscape", "internal/bytealg.MakeNoZero"], unfollowed := true, recurses := true, named := ["internal/bytealg.MaxLen", "strconv.ErrSyntax", "strconv.ErrRange", "internal/strconv.uint64pow10", "math/bits.deBruijn32tab", "math/bits.deBruijn64tab", "math/bits.divideError", "math/bits.overflowError"], apart := false, laid := [("math/bits.deBruijn32tab", laid_math_bits_deBruijn32tab), ("math/bits.deBruijn64tab", laid_math_bits_deBruijn64tab), ("internal/strconv.uint64pow10", laid_internal_strconv_uint64pow10), ("strconv.ErrRange", laid_strconv_ErrRange), ("strconv.ErrSyntax", laid_strconv_ErrSyntax)], narrowed := true }
def SpaceNearestUptoSaid : Prop := spaceNearestUptoRow.holds Tryz.pinned (OpenSpec.upto spaceNearestSpec)

/-- 'trunnellaw01.SpaceComposed', WHERE WHAT IT READS IS OF BULK AT MOST 1048576: true; the input reads as it did. -/
def spaceComposedUptoRow : OpenClaim := { program := "ytoiejgkkcfkliaagreatdoor", sum := "3b9ae655bd757ee6a3213447b803f0335d0a794bf885069fe5b4d1c3ff0c860a", func := "trunnel/trunnellaw01.SpaceComposed", spec := "spaceComposed", inPlace := ["internal/bytealg.IndexByteString", "internal/bytealg.IndexString", "math/bits.Add64", "math/bits.Sub64", "internal/abi.NoEscape", "internal/bytealg.MakeNoZero"], unfollowed := true, recurses := true, named := ["internal/bytealg.MaxLen", "strconv.ErrSyntax", "strconv.ErrRange", "internal/strconv.uint64pow10", "math/bits.deBruijn32tab", "math/bits.deBruijn64tab", "math/bits.divideError", "math/bits.overflowError"], apart := false, laid := [("math/bits.deBruijn32tab", laid_math_bits_deBruijn32tab), ("math/bits.deBruijn64tab", laid_math_bits_deBruijn64tab), ("internal/strconv.uint64pow10", laid_internal_strconv_uint64pow10), ("strconv.ErrRange", laid_strconv_ErrRange), ("strconv.ErrSyntax", laid_strconv_ErrSyntax)], narrowed := true }
def SpaceComposedUptoSaid : Prop := spaceComposedUptoRow.holds Tryz.pinned (OpenSpec.upto spaceComposedSpec)

/-- 'trunnellaw01.SpaceTurns', WHERE WHAT IT READS IS OF BULK AT MOST 1048576: true; the input reads as it did. -/
def spaceTurnsUptoRow : OpenClaim := { program := "ytoiejgkkcfkliaagreatdoor", sum := "3b9ae655bd757ee6a3213447b803f0335d0a794bf885069fe5b4d1c3ff0c860a", func := "trunnel/trunnellaw01.SpaceTurns", spec := "spaceTurns", inPlace := ["internal/bytealg.IndexByteString", "internal/bytealg.IndexString", "math/bits.Add64", "math/bits.Sub64", "internal/abi.NoEscape", "internal/bytealg.MakeNoZero"], unfollowed := true, recurses := true, named := ["internal/bytealg.MaxLen", "strconv.ErrSyntax", "strconv.ErrRange", "internal/strconv.uint64pow10", "math/bits.deBruijn32tab", "math/bits.deBruijn64tab", "math/bits.divideError", "math/bits.overflowError"], apart := false, laid := [("math/bits.deBruijn32tab", laid_math_bits_deBruijn32tab), ("math/bits.deBruijn64tab", laid_math_bits_deBruijn64tab), ("internal/strconv.uint64pow10", laid_internal_strconv_uint64pow10), ("strconv.ErrRange", laid_strconv_ErrRange), ("strconv.ErrSyntax", laid_strconv_ErrSyntax)], narrowed := true }
def SpaceTurnsUptoSaid : Prop := spaceTurnsUptoRow.holds Tryz.pinned (OpenSpec.upto spaceTurnsSpec)

/-- 'trunnellaw01.SpaceCrossings', WHERE WHAT IT READS IS OF BULK AT MOST 1048576: true; the input reads as it did. -/
def spaceCrossingsUptoRow : OpenClaim := { program := "ytoiejgkkcfkliaagreatdoor", sum := "3b9ae655bd757ee6a3213447b803f0335d0a794bf885069fe5b4d1c3ff0c860a", func := "trunnel/trunnellaw01.SpaceCrossings", spec := "spaceCrossings", inPlace := ["internal/bytealg.IndexByteString", "internal/bytealg.IndexString", "math/bits.Add64", "math/bits.Sub64", "internal/abi.NoEscape", "internal/bytealg.MakeNoZero"], unfollowed := true, recurses := true, named := ["internal/bytealg.MaxLen", "strconv.ErrSyntax", "strconv.ErrRange", "internal/strconv.uint64pow10", "math/bits.deBruijn32tab", "math/bits.deBruijn64tab", "math/bits.divideError", "math/bits.overflowError"], apart := false, laid := [("math/bits.deBruijn32tab", laid_math_bits_deBruijn32tab), ("math/bits.deBruijn64tab", laid_math_bits_deBruijn64tab), ("internal/strconv.uint64pow10", laid_internal_strconv_uint64pow10), ("strconv.ErrRange", laid_strconv_ErrRange), ("strconv.ErrSyntax", laid_strconv_ErrSyntax)], narrowed := true }
def SpaceCrossingsUptoSaid : Prop := spaceCrossingsUptoRow.holds Tryz.pinned (OpenSpec.upto spaceCrossingsSpec)

/-- 'trunnellaw01.SpaceCoordinates', WHERE WHAT IT READS IS OF BULK AT MOST 1048576: true; the input reads as it did. -/
def spaceCoordinatesUptoRow : OpenClaim := { program := "ytoiejgkkcfkliaagreatdoor", sum := "3b9ae655bd757ee6a3213447b803f0335d0a794bf885069fe5b4d1c3ff0c860a", func := "trunnel/trunnellaw01.SpaceCoordinates", spec := "spaceCoordinates", inPlace := ["internal/bytealg.IndexByteString", "internal/bytealg.IndexString", "math/bits.Add64", "math/bits.Sub64", "internal/abi.NoEscape", "internal/bytealg.MakeNoZero"], unfollowed := true, recurses := true, named := ["internal/bytealg.MaxLen", "strconv.ErrSyntax", "strconv.ErrRange", "internal/strconv.uint64pow10", "math/bits.deBruijn32tab", "math/bits.deBruijn64tab", "math/bits.divideError", "math/bits.overflowError"], apart := false, laid := [("math/bits.deBruijn32tab", laid_math_bits_deBruijn32tab), ("math/bits.deBruijn64tab", laid_math_bits_deBruijn64tab), ("internal/strconv.uint64pow10", laid_internal_strconv_uint64pow10), ("strconv.ErrRange", laid_strconv_ErrRange), ("strconv.ErrSyntax", laid_strconv_ErrSyntax)], narrowed := true }
def SpaceCoordinatesUptoSaid : Prop := spaceCoordinatesUptoRow.holds Tryz.pinned (OpenSpec.upto spaceCoordinatesSpec)

/-- 'trunnellaw01.SpaceLagrange', WHERE WHAT IT READS IS OF BULK AT MOST 1048576: true; the input reads as it did. -/
def spaceLagrangeUptoRow : OpenClaim := { program := "ytoiejgkkcfkliaagreatdoor", sum := "3b9ae655bd757ee6a3213447b803f0335d0a794bf885069fe5b4d1c3ff0c860a", func := "trunnel/trunnellaw01.SpaceLagrange", spec := "spaceLagrange", inPlace := ["internal/bytealg.IndexByteString", "internal/bytealg.IndexString", "math/bits.Add64", "math/bits.Sub64", "internal/abi.NoEscape", "internal/bytealg.MakeNoZero"], unfollowed := true, recurses := true, named := ["internal/bytealg.MaxLen", "strconv.ErrSyntax", "strconv.ErrRange", "internal/strconv.uint64pow10", "math/bits.deBruijn32tab", "math/bits.deBruijn64tab", "math/bits.divideError", "math/bits.overflowError"], apart := false, laid := [("math/bits.deBruijn32tab", laid_math_bits_deBruijn32tab), ("math/bits.deBruijn64tab", laid_math_bits_deBruijn64tab), ("internal/strconv.uint64pow10", laid_internal_strconv_uint64pow10), ("strconv.ErrRange", laid_strconv_ErrRange), ("strconv.ErrSyntax", laid_strconv_ErrSyntax)], narrowed := true }
def SpaceLagrangeUptoSaid : Prop := spaceLagrangeUptoRow.holds Tryz.pinned (OpenSpec.upto spaceLagrangeSpec)

/-- 'trunnellaw01.SpaceFrames', WHERE WHAT IT READS IS OF BULK AT MOST 1048576: true; the input reads as it did. -/
def spaceFramesUptoRow : OpenClaim := { program := "ytoiejgkkcfkliaagreatdoor", sum := "3b9ae655bd757ee6a3213447b803f0335d0a794bf885069fe5b4d1c3ff0c860a", func := "trunnel/trunnellaw01.SpaceFrames", spec := "spaceFrames", inPlace := ["internal/bytealg.IndexByteString", "internal/bytealg.IndexString", "math/bits.Add64", "math/bits.Sub64", "internal/abi.NoEscape", "internal/bytealg.MakeNoZero"], unfollowed := true, recurses := true, named := ["internal/bytealg.MaxLen", "strconv.ErrSyntax", "strconv.ErrRange", "internal/strconv.uint64pow10", "math/bits.deBruijn32tab", "math/bits.deBruijn64tab", "math/bits.divideError", "math/bits.overflowError"], apart := false, laid := [("math/bits.deBruijn32tab", laid_math_bits_deBruijn32tab), ("math/bits.deBruijn64tab", laid_math_bits_deBruijn64tab), ("internal/strconv.uint64pow10", laid_internal_strconv_uint64pow10), ("strconv.ErrRange", laid_strconv_ErrRange), ("strconv.ErrSyntax", laid_strconv_ErrSyntax)], narrowed := true }
def SpaceFramesUptoSaid : Prop := spaceFramesUptoRow.holds Tryz.pinned (OpenSpec.upto spaceFramesSpec)

/-- 'trunnellaw01.SpacePlanes', WHERE WHAT IT READS IS OF BULK AT MOST 1048576: true; the input reads as it did. -/
def spacePlanesUptoRow : OpenClaim := { program := "ytoiejgkkcfkliaagreatdoor", sum := "3b9ae655bd757ee6a3213447b803f0335d0a794bf885069fe5b4d1c3ff0c860a", func := "trunnel/trunnellaw01.SpacePlanes", spec := "spacePlanes", inPlace := ["internal/bytealg.IndexByteString", "internal/bytealg.IndexString", "math/bits.Add64", "math/bits.Sub64", "internal/abi.NoEscape", "internal/bytealg.MakeNoZero"], unfollowed := true, recurses := true, named := ["internal/bytealg.MaxLen", "strconv.ErrSyntax", "strconv.ErrRange", "internal/strconv.uint64pow10", "math/bits.deBruijn32tab", "math/bits.deBruijn64tab", "math/bits.divideError", "math/bits.overflowError"], apart := false, laid := [("math/bits.deBruijn32tab", laid_math_bits_deBruijn32tab), ("math/bits.deBruijn64tab", laid_math_bits_deBruijn64tab), ("internal/strconv.uint64pow10", laid_internal_strconv_uint64pow10), ("strconv.ErrRange", laid_strconv_ErrRange), ("strconv.ErrSyntax", laid_strconv_ErrSyntax)], narrowed := true }
def SpacePlanesUptoSaid : Prop := spacePlanesUptoRow.holds Tryz.pinned (OpenSpec.upto spacePlanesSpec)

/-- 'trunnellaw01.SpaceNumbers', WHERE WHAT IT READS IS OF BULK AT MOST 1048576: true; the input reads as it did. -/
def spaceNumbersUptoRow : OpenClaim := { program := "ytoiejgkkcfkliaagreatdoor", sum := "3b9ae655bd757ee6a3213447b803f0335d0a794bf885069fe5b4d1c3ff0c860a", func := "trunnel/trunnellaw01.SpaceNumbers", spec := "spaceNumbers", inPlace := ["internal/bytealg.IndexByteString", "internal/bytealg.IndexString", "math/bits.Add64", "math/bits.Sub64", "internal/abi.NoEscape", "internal/bytealg.MakeNoZero"], unfollowed := true, recurses := true, named := ["internal/bytealg.MaxLen", "strconv.ErrSyntax", "strconv.ErrRange", "internal/strconv.uint64pow10", "math/bits.deBruijn32tab", "math/bits.deBruijn64tab", "math/bits.divideError", "math/bits.overflowError"], apart := false, laid := [("math/bits.deBruijn32tab", laid_math_bits_deBruijn32tab), ("math/bits.deBruijn64tab", laid_math_bits_deBruijn64tab), ("internal/strconv.uint64pow10", laid_internal_strconv_uint64pow10), ("strconv.ErrRange", laid_strconv_ErrRange), ("strconv.ErrSyntax", laid_strconv_ErrSyntax)], narrowed := true }
def SpaceNumbersUptoSaid : Prop := spaceNumbersUptoRow.holds Tryz.pinned (OpenSpec.upto spaceNumbersSpec)

/-- 'trunnellaw01.SpaceVectors', WHERE WHAT IT READS IS OF BULK AT MOST 1048576: true; the input reads as it did. -/
def spaceVectorsUptoRow : OpenClaim := { program := "ytoiejgkkcfkliaagreatdoor", sum := "3b9ae655bd757ee6a3213447b803f0335d0a794bf885069fe5b4d1c3ff0c860a", func := "trunnel/trunnellaw01.SpaceVectors", spec := "spaceVectors", inPlace := ["internal/bytealg.IndexByteString", "internal/bytealg.IndexString", "math/bits.Add64", "math/bits.Sub64", "internal/abi.NoEscape", "internal/bytealg.MakeNoZero"], unfollowed := true, recurses := true, named := ["internal/bytealg.MaxLen", "strconv.ErrSyntax", "strconv.ErrRange", "internal/strconv.uint64pow10", "math/bits.deBruijn32tab", "math/bits.deBruijn64tab", "math/bits.divideError", "math/bits.overflowError"], apart := false, laid := [("math/bits.deBruijn32tab", laid_math_bits_deBruijn32tab), ("math/bits.deBruijn64tab", laid_math_bits_deBruijn64tab), ("internal/strconv.uint64pow10", laid_internal_strconv_uint64pow10), ("strconv.ErrRange", laid_strconv_ErrRange), ("strconv.ErrSyntax", laid_strconv_ErrSyntax)], narrowed := true }
def SpaceVectorsUptoSaid : Prop := spaceVectorsUptoRow.holds Tryz.pinned (OpenSpec.upto spaceVectorsSpec)

end Rows
end Go.Proofs.YtoiejgkkcfkliaaGreatDoor
