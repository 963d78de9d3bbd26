/-
  NARROWER THAN 'FOR EVERY INPUT', by the rows' own cells (each row's printed sentence says how): NestPlacings: laid · NestFirsts: laid · NestBests: laid · NestBoards: laid · NestMatches: laid · NestMonotone: laid · NestAssigns: laid · NestLogs: laid · NestRounds: laid · NestExcesses: laid · NestKerfs: laid · NestStocks: laid · NestPrices: laid · NestDuality: laid.
  DERIVED. THE GIVEN ROWS OF THIS SEAT. 14 by the template 'for every input the law returns true; each argument reads behind the call as it read before'; 0 by the template 'total and deterministic' (their statements: YtalgbhjnbgkneaaGreatDoorTotals.lean).
  GIVEN WITH THE SEED: the statements are not yours to turn. If you find one false, say at which input.
  Laid BY PROGRAM, IN A SANDBOX (cutbox-rows.mjs): the forced cells as the released guide's own fill.sh prints them over the translation 3f82b2bcb7f463c8… (all of the seat's roots in one cut). By AI agents, Wed Nov 11 2026. No macro, syntax, notation, axiom, sorry.
-/
import Derived.Test.YtalgbhjnbgkneaaGreatDoorChecked
import GoSem.Claim
import GoSem.ClaimJoined
import GoSem.ClaimMapViews
import Derived.JoinedTies
import Derived.KernelRfl
namespace Go.Proofs.YtalgbhjnbgkneaaGreatDoor
/- THE CELL 'sum', in the pinned program and in every row, IS THE sha256 OF THE DUMP (.gsa) THAT YtalgbhjnbgkneaaGreatDoorProg.lean LOADS. Nothing in Lean hashes anything: it is a label: what it is worth is what the hold of that sum in a sandbox is worth. -/
noncomputable def Tryz.pinned : Pinned := { name := "ytalgbhjnbgkneaagreatdoor", sum := "3f82b2bcb7f463c8eb68a29c395bfed87425474b52ba08a1c57b9828eeceb341", checked := Tryz.checked }
namespace Rows
def none {H : Type} : Left H := { results := [], args := [] }

/- WHAT THE LISTED PACKAGE-LEVEL VARIABLES READ AS WHEN THE CALL BEGINS. Each datum BY PROGRAM (the guide's laid-datum.mjs) off the statement by which the dump's own 'gosem.cut.vars' lays the variable. In a bare row this is a premise. The card (YtalgbhjnbgkneaaGreatDoorCards.lean) ties it to the program's text. -/
def laid_math_bits_deBruijn32tab {H : Type} : DataW H := .agg [.lit (.int .u8 0), .lit (.int .u8 1), .lit (.int .u8 28), .lit (.int .u8 2), .lit (.int .u8 29), .lit (.int .u8 14), .lit (.int .u8 24), .lit (.int .u8 3), .lit (.int .u8 30), .lit (.int .u8 22), .lit (.int .u8 20), .lit (.int .u8 15), .lit (.int .u8 25), .lit (.int .u8 17), .lit (.int .u8 4), .lit (.int .u8 8), .lit (.int .u8 31), .lit (.int .u8 27), .lit (.int .u8 13), .lit (.int .u8 23), .lit (.int .u8 21), .lit (.int .u8 19), .lit (.int .u8 16), .lit (.int .u8 7), .lit (.int .u8 26), .lit (.int .u8 12), .lit (.int .u8 18), .lit (.int .u8 6), .lit (.int .u8 11), .lit (.int .u8 5), .lit (.int .u8 10), .lit (.int .u8 9)]
def laid_math_bits_deBruijn64tab {H : Type} : DataW H := .agg [.lit (.int .u8 0), .lit (.int .u8 1), .lit (.int .u8 56), .lit (.int .u8 2), .lit (.int .u8 57), .lit (.int .u8 49), .lit (.int .u8 28), .lit (.int .u8 3), .lit (.int .u8 61), .lit (.int .u8 58), .lit (.int .u8 42), .lit (.int .u8 50), .lit (.int .u8 38), .lit (.int .u8 29), .lit (.int .u8 17), .lit (.int .u8 4), .lit (.int .u8 62), .lit (.int .u8 47), .lit (.int .u8 59), .lit (.int .u8 36), .lit (.int .u8 45), .lit (.int .u8 43), .lit (.int .u8 51), .lit (.int .u8 22), .lit (.int .u8 53), .lit (.int .u8 39), .lit (.int .u8 33), .lit (.int .u8 30), .lit (.int .u8 24), .lit (.int .u8 18), .lit (.int .u8 12), .lit (.int .u8 5), .lit (.int .u8 63), .lit (.int .u8 55), .lit (.int .u8 48), .lit (.int .u8 27), .lit (.int .u8 60), .lit (.int .u8 41), .lit (.int .u8 37), .lit (.int .u8 16), .lit (.int .u8 46), .lit (.int .u8 35), .lit (.int .u8 44), .lit (.int .u8 21), .lit (.int .u8 52), .lit (.int .u8 32), .lit (.int .u8 23), .lit (.int .u8 11), .lit (.int .u8 54), .lit (.int .u8 26), .lit (.int .u8 40), .lit (.int .u8 15), .lit (.int .u8 34), .lit (.int .u8 20), .lit (.int .u8 31), .lit (.int .u8 10), .lit (.int .u8 25), .lit (.int .u8 14), .lit (.int .u8 19), .lit (.int .u8 9), .lit (.int .u8 13), .lit (.int .u8 8), .lit (.int .u8 7), .lit (.int .u8 6)]
def laid_internal_strconv_uint64pow10 {H : Type} : DataW H := .agg [.lit (.int .u64 1), .lit (.int .u64 10), .lit (.int .u64 100), .lit (.int .u64 1000), .lit (.int .u64 10000), .lit (.int .u64 100000), .lit (.int .u64 1000000), .lit (.int .u64 10000000), .lit (.int .u64 100000000), .lit (.int .u64 1000000000), .lit (.int .u64 10000000000), .lit (.int .u64 100000000000), .lit (.int .u64 1000000000000), .lit (.int .u64 10000000000000), .lit (.int .u64 100000000000000), .lit (.int .u64 1000000000000000), .lit (.int .u64 10000000000000000), .lit (.int .u64 100000000000000000), .lit (.int .u64 1000000000000000000), .lit (.int .u64 10000000000000000000)]
def laid_strconv_ErrRange {H : Type} : DataW H := .iface "*errors.errorString" (.ptr (.agg [.lit (.string [118, 97, 108, 117, 101, 32, 111, 117, 116, 32, 111, 102, 32, 114, 97, 110, 103, 101])]))
def laid_strconv_ErrSyntax {H : Type} : DataW H := .iface "*errors.errorString" (.ptr (.agg [.lit (.string [105, 110, 118, 97, 108, 105, 100, 32, 115, 121, 110, 116, 97, 120])]))

/-- 'trunnellaw06.NestPlacings': WHATEVER THE INPUT: true; the input reads as it did. -/
def nestPlacingsSpec : ChangeSpec := { name := "nestPlacings", fn := fun _ => fun
  | [d1, d2, d3] => { results := [.lit (.bool true)], args := [d1, d2, d3] }
  | _ => none }
def nestPlacingsRow : OpenClaim := { program := "ytalgbhjnbgkneaagreatdoor", sum := "3f82b2bcb7f463c8eb68a29c395bfed87425474b52ba08a1c57b9828eeceb341", func := "trunnel/trunnellaw06.NestPlacings", spec := "nestPlacings", inPlace := ["math/bits.Add64", "math/bits.Sub64", "internal/abi.NoEscape", "internal/bytealg.MakeNoZero"], unfollowed := true, recurses := true, named := ["math/bits.divideError", "math/bits.overflowError", "internal/strconv.uint64pow10", "math/bits.deBruijn32tab", "math/bits.deBruijn64tab"], apart := false, laid := [("math/bits.deBruijn32tab", laid_math_bits_deBruijn32tab), ("math/bits.deBruijn64tab", laid_math_bits_deBruijn64tab), ("internal/strconv.uint64pow10", laid_internal_strconv_uint64pow10)] }
def NestPlacingsSaid : Prop := nestPlacingsRow.holds Tryz.pinned (OpenSpec.ofChange nestPlacingsSpec)

/-- ITS FALSE NEIGHBOUR: 'it returns false'. Refute it at one input. -/
def nestPlacingsWrong : ChangeSpec := { name := "nestPlacings", fn := fun _ => fun
  | [d1, d2, d3] => { results := [.lit (.bool false)], args := [d1, d2, d3] }
  | _ => none }
def NestPlacingsWrongFalsely : Prop := nestPlacingsRow.holds Tryz.pinned (OpenSpec.ofChange nestPlacingsWrong)

/-- 'trunnellaw06.NestFirsts': WHATEVER THE INPUT: true; the input reads as it did. -/
def nestFirstsSpec : ChangeSpec := { name := "nestFirsts", fn := fun _ => fun
  | [d1, d2] => { results := [.lit (.bool true)], args := [d1, d2] }
  | _ => none }
def nestFirstsRow : OpenClaim := { program := "ytalgbhjnbgkneaagreatdoor", sum := "3f82b2bcb7f463c8eb68a29c395bfed87425474b52ba08a1c57b9828eeceb341", func := "trunnel/trunnellaw06.NestFirsts", spec := "nestFirsts", inPlace := ["math/bits.Add64", "math/bits.Sub64", "internal/abi.NoEscape", "internal/bytealg.MakeNoZero"], unfollowed := true, recurses := true, named := ["math/bits.divideError", "math/bits.overflowError", "internal/strconv.uint64pow10", "math/bits.deBruijn32tab", "math/bits.deBruijn64tab"], apart := false, laid := [("math/bits.deBruijn32tab", laid_math_bits_deBruijn32tab), ("math/bits.deBruijn64tab", laid_math_bits_deBruijn64tab), ("internal/strconv.uint64pow10", laid_internal_strconv_uint64pow10)] }
def NestFirstsSaid : Prop := nestFirstsRow.holds Tryz.pinned (OpenSpec.ofChange nestFirstsSpec)

/-- ITS FALSE NEIGHBOUR: 'it returns false'. Refute it at one input. -/
def nestFirstsWrong : ChangeSpec := { name := "nestFirsts", fn := fun _ => fun
  | [d1, d2] => { results := [.lit (.bool false)], args := [d1, d2] }
  | _ => none }
def NestFirstsWrongFalsely : Prop := nestFirstsRow.holds Tryz.pinned (OpenSpec.ofChange nestFirstsWrong)

/-- 'trunnellaw06.NestBests': WHATEVER THE INPUT: true; the input reads as it did. -/
def nestBestsSpec : ChangeSpec := { name := "nestBests", fn := fun _ => fun
  | [d1, d2] => { results := [.lit (.bool true)], args := [d1, d2] }
  | _ => none }
def nestBestsRow : OpenClaim := { program := "ytalgbhjnbgkneaagreatdoor", sum := "3f82b2bcb7f463c8eb68a29c395bfed87425474b52ba08a1c57b9828eeceb341", func := "trunnel/trunnellaw06.NestBests", spec := "nestBests", inPlace := ["math/bits.Add64", "math/bits.Sub64", "internal/abi.NoEscape", "internal/bytealg.MakeNoZero"], unfollowed := true, recurses := true, named := ["math/bits.divideError", "math/bits.overflowError", "internal/strconv.uint64pow10", "math/bits.deBruijn32tab", "math/bits.deBruijn64tab"], apart := false, laid := [("math/bits.deBruijn32tab", laid_math_bits_deBruijn32tab), ("math/bits.deBruijn64tab", laid_math_bits_deBruijn64tab), ("internal/strconv.uint64pow10", laid_internal_strconv_uint64pow10)] }
def NestBestsSaid : Prop := nestBestsRow.holds Tryz.pinned (OpenSpec.ofChange nestBestsSpec)

/-- ITS FALSE NEIGHBOUR: 'it returns false'. Refute it at one input. -/
def nestBestsWrong : ChangeSpec := { name := "nestBests", fn := fun _ => fun
  | [d1, d2] => { results := [.lit (.bool false)], args := [d1, d2] }
  | _ => none }
def NestBestsWrongFalsely : Prop := nestBestsRow.holds Tryz.pinned (OpenSpec.ofChange nestBestsWrong)

/-- 'trunnellaw06.NestBoards': WHATEVER THE INPUT: true; the input reads as it did. -/
def nestBoardsSpec : ChangeSpec := { name := "nestBoards", fn := fun _ => fun
  | [d1, d2] => { results := [.lit (.bool true)], args := [d1, d2] }
  | _ => none }
def nestBoardsRow : OpenClaim := { program := "ytalgbhjnbgkneaagreatdoor", sum := "3f82b2bcb7f463c8eb68a29c395bfed87425474b52ba08a1c57b9828eeceb341", func := "trunnel/trunnellaw06.NestBoards", spec := "nestBoards", inPlace := ["math/bits.Add64", "math/bits.Sub64", "internal/abi.NoEscape", "internal/bytealg.MakeNoZero"], unfollowed := true, recurses := true, named := ["math/bits.divideError", "math/bits.overflowError", "internal/strconv.uint64pow10", "math/bits.deBruijn32tab", "math/bits.deBruijn64tab"], apart := false, laid := [("math/bits.deBruijn32tab", laid_math_bits_deBruijn32tab), ("math/bits.deBruijn64tab", laid_math_bits_deBruijn64tab), ("internal/strconv.uint64pow10", laid_internal_strconv_uint64pow10)] }
def NestBoardsSaid : Prop := nestBoardsRow.holds Tryz.pinned (OpenSpec.ofChange nestBoardsSpec)

/-- ITS FALSE NEIGHBOUR: 'it returns false'. Refute it at one input. -/
def nestBoardsWrong : ChangeSpec := { name := "nestBoards", fn := fun _ => fun
  | [d1, d2] => { results := [.lit (.bool false)], args := [d1, d2] }
  | _ => none }
def NestBoardsWrongFalsely : Prop := nestBoardsRow.holds Tryz.pinned (OpenSpec.ofChange nestBoardsWrong)

/-- 'trunnellaw06.NestMatches': WHATEVER THE INPUT: true; the input reads as it did. -/
def nestMatchesSpec : ChangeSpec := { name := "nestMatches", fn := fun _ => fun
  | [d1, d2] => { results := [.lit (.bool true)], args := [d1, d2] }
  | _ => none }
def nestMatchesRow : OpenClaim := { program := "ytalgbhjnbgkneaagreatdoor", sum := "3f82b2bcb7f463c8eb68a29c395bfed87425474b52ba08a1c57b9828eeceb341", func := "trunnel/trunnellaw06.NestMatches", spec := "nestMatches", inPlace := ["math/bits.Add64", "math/bits.Sub64", "internal/abi.NoEscape", "internal/bytealg.MakeNoZero"], unfollowed := true, recurses := true, named := ["math/bits.divideError", "math/bits.overflowError", "internal/strconv.uint64pow10", "math/bits.deBruijn32tab", "math/bits.deBruijn64tab"], apart := false, laid := [("math/bits.deBruijn32tab", laid_math_bits_deBruijn32tab), ("math/bits.deBruijn64tab", laid_math_bits_deBruijn64tab), ("internal/strconv.uint64pow10", laid_internal_strconv_uint64pow10)] }
def NestMatchesSaid : Prop := nestMatchesRow.holds Tryz.pinned (OpenSpec.ofChange nestMatchesSpec)

/-- ITS FALSE NEIGHBOUR: 'it returns false'. Refute it at one input. -/
def nestMatchesWrong : ChangeSpec := { name := "nestMatches", fn := fun _ => fun
  | [d1, d2] => { results := [.lit (.bool false)], args := [d1, d2] }
  | _ => none }
def NestMatchesWrongFalsely : Prop := nestMatchesRow.holds Tryz.pinned (OpenSpec.ofChange nestMatchesWrong)

/-- 'trunnellaw06.NestMonotone': WHATEVER THE INPUT: true; the input reads as it did. -/
def nestMonotoneSpec : ChangeSpec := { name := "nestMonotone", fn := fun _ => fun
  | [d1, d2, d3] => { results := [.lit (.bool true)], args := [d1, d2, d3] }
  | _ => none }
def nestMonotoneRow : OpenClaim := { program := "ytalgbhjnbgkneaagreatdoor", sum := "3f82b2bcb7f463c8eb68a29c395bfed87425474b52ba08a1c57b9828eeceb341", func := "trunnel/trunnellaw06.NestMonotone", spec := "nestMonotone", inPlace := ["math/bits.Add64", "math/bits.Sub64", "internal/abi.NoEscape", "internal/bytealg.MakeNoZero"], unfollowed := true, recurses := true, named := ["math/bits.divideError", "math/bits.overflowError", "internal/strconv.uint64pow10", "math/bits.deBruijn32tab", "math/bits.deBruijn64tab"], apart := false, laid := [("math/bits.deBruijn32tab", laid_math_bits_deBruijn32tab), ("math/bits.deBruijn64tab", laid_math_bits_deBruijn64tab), ("internal/strconv.uint64pow10", laid_internal_strconv_uint64pow10)] }
def NestMonotoneSaid : Prop := nestMonotoneRow.holds Tryz.pinned (OpenSpec.ofChange nestMonotoneSpec)

/-- ITS FALSE NEIGHBOUR: 'it returns false'. Refute it at one input. -/
def nestMonotoneWrong : ChangeSpec := { name := "nestMonotone", fn := fun _ => fun
  | [d1, d2, d3] => { results := [.lit (.bool false)], args := [d1, d2, d3] }
  | _ => none }
def NestMonotoneWrongFalsely : Prop := nestMonotoneRow.holds Tryz.pinned (OpenSpec.ofChange nestMonotoneWrong)

/-- 'trunnellaw06.NestAssigns': WHATEVER THE INPUT: true; the input reads as it did. -/
def nestAssignsSpec : ChangeSpec := { name := "nestAssigns", fn := fun _ => fun
  | [d1, d2, d3] => { results := [.lit (.bool true)], args := [d1, d2, d3] }
  | _ => none }
def nestAssignsRow : OpenClaim := { program := "ytalgbhjnbgkneaagreatdoor", sum := "3f82b2bcb7f463c8eb68a29c395bfed87425474b52ba08a1c57b9828eeceb341", func := "trunnel/trunnellaw06.NestAssigns", spec := "nestAssigns", inPlace := ["math/bits.Add64", "math/bits.Sub64", "internal/abi.NoEscape", "internal/bytealg.MakeNoZero"], unfollowed := true, recurses := true, named := ["math/bits.divideError", "math/bits.overflowError", "internal/strconv.uint64pow10", "math/bits.deBruijn32tab", "math/bits.deBruijn64tab"], apart := false, laid := [("math/bits.deBruijn32tab", laid_math_bits_deBruijn32tab), ("math/bits.deBruijn64tab", laid_math_bits_deBruijn64tab), ("internal/strconv.uint64pow10", laid_internal_strconv_uint64pow10)] }
def NestAssignsSaid : Prop := nestAssignsRow.holds Tryz.pinned (OpenSpec.ofChange nestAssignsSpec)

/-- ITS FALSE NEIGHBOUR: 'it returns false'. Refute it at one input. -/
def nestAssignsWrong : ChangeSpec := { name := "nestAssigns", fn := fun _ => fun
  | [d1, d2, d3] => { results := [.lit (.bool false)], args := [d1, d2, d3] }
  | _ => none }
def NestAssignsWrongFalsely : Prop := nestAssignsRow.holds Tryz.pinned (OpenSpec.ofChange nestAssignsWrong)

/-- 'trunnellaw06.NestLogs': WHATEVER THE INPUT: true; the input reads as it did. -/
def nestLogsSpec : ChangeSpec := { name := "nestLogs", fn := fun _ => fun
  | [d1, d2, d3] => { results := [.lit (.bool true)], args := [d1, d2, d3] }
  | _ => none }
def nestLogsRow : OpenClaim := { program := "ytalgbhjnbgkneaagreatdoor", sum := "3f82b2bcb7f463c8eb68a29c395bfed87425474b52ba08a1c57b9828eeceb341", func := "trunnel/trunnellaw06.NestLogs", spec := "nestLogs", inPlace := ["math/bits.Add64", "math/bits.Sub64", "internal/abi.NoEscape", "internal/bytealg.MakeNoZero"], unfollowed := true, recurses := true, named := ["math/bits.divideError", "math/bits.overflowError", "internal/strconv.uint64pow10", "math/bits.deBruijn32tab", "math/bits.deBruijn64tab"], apart := false, laid := [("math/bits.deBruijn32tab", laid_math_bits_deBruijn32tab), ("math/bits.deBruijn64tab", laid_math_bits_deBruijn64tab), ("internal/strconv.uint64pow10", laid_internal_strconv_uint64pow10)] }
def NestLogsSaid : Prop := nestLogsRow.holds Tryz.pinned (OpenSpec.ofChange nestLogsSpec)

/-- ITS FALSE NEIGHBOUR: 'it returns false'. Refute it at one input. -/
def nestLogsWrong : ChangeSpec := { name := "nestLogs", fn := fun _ => fun
  | [d1, d2, d3] => { results := [.lit (.bool false)], args := [d1, d2, d3] }
  | _ => none }
def NestLogsWrongFalsely : Prop := nestLogsRow.holds Tryz.pinned (OpenSpec.ofChange nestLogsWrong)

/-- 'trunnellaw06.NestRounds': WHATEVER THE INPUT: true; the input reads as it did. -/
def nestRoundsSpec : ChangeSpec := { name := "nestRounds", fn := fun _ => fun
  | [d] => { results := [.lit (.bool true)], args := [d] }
  | _ => none }
def nestRoundsRow : OpenClaim := { program := "ytalgbhjnbgkneaagreatdoor", sum := "3f82b2bcb7f463c8eb68a29c395bfed87425474b52ba08a1c57b9828eeceb341", func := "trunnel/trunnellaw06.NestRounds", spec := "nestRounds", inPlace := ["math/bits.Add64", "math/bits.Sub64", "internal/abi.NoEscape", "internal/bytealg.MakeNoZero"], unfollowed := true, recurses := true, named := ["math/bits.divideError", "math/bits.overflowError", "internal/strconv.uint64pow10", "math/bits.deBruijn32tab", "math/bits.deBruijn64tab"], apart := false, laid := [("math/bits.deBruijn32tab", laid_math_bits_deBruijn32tab), ("math/bits.deBruijn64tab", laid_math_bits_deBruijn64tab), ("internal/strconv.uint64pow10", laid_internal_strconv_uint64pow10)] }
def NestRoundsSaid : Prop := nestRoundsRow.holds Tryz.pinned (OpenSpec.ofChange nestRoundsSpec)

/-- ITS FALSE NEIGHBOUR: 'it returns false'. Refute it at one input. -/
def nestRoundsWrong : ChangeSpec := { name := "nestRounds", fn := fun _ => fun
  | [d] => { results := [.lit (.bool false)], args := [d] }
  | _ => none }
def NestRoundsWrongFalsely : Prop := nestRoundsRow.holds Tryz.pinned (OpenSpec.ofChange nestRoundsWrong)

/-- 'trunnellaw06.NestExcesses': WHATEVER THE INPUT: true; the input reads as it did. -/
def nestExcessesSpec : ChangeSpec := { name := "nestExcesses", fn := fun _ => fun
  | [d1, d2, d3] => { results := [.lit (.bool true)], args := [d1, d2, d3] }
  | _ => none }
def nestExcessesRow : OpenClaim := { program := "ytalgbhjnbgkneaagreatdoor", sum := "3f82b2bcb7f463c8eb68a29c395bfed87425474b52ba08a1c57b9828eeceb341", func := "trunnel/trunnellaw06.NestExcesses", spec := "nestExcesses", inPlace := ["math/bits.Add64", "math/bits.Sub64", "internal/abi.NoEscape", "internal/bytealg.MakeNoZero"], unfollowed := true, recurses := true, named := ["math/bits.divideError", "math/bits.overflowError", "internal/strconv.uint64pow10", "math/bits.deBruijn32tab", "math/bits.deBruijn64tab"], apart := false, laid := [("math/bits.deBruijn32tab", laid_math_bits_deBruijn32tab), ("math/bits.deBruijn64tab", laid_math_bits_deBruijn64tab), ("internal/strconv.uint64pow10", laid_internal_strconv_uint64pow10)] }
def NestExcessesSaid : Prop := nestExcessesRow.holds Tryz.pinned (OpenSpec.ofChange nestExcessesSpec)

/-- ITS FALSE NEIGHBOUR: 'it returns false'. Refute it at one input. -/
def nestExcessesWrong : ChangeSpec := { name := "nestExcesses", fn := fun _ => fun
  | [d1, d2, d3] => { results := [.lit (.bool false)], args := [d1, d2, d3] }
  | _ => none }
def NestExcessesWrongFalsely : Prop := nestExcessesRow.holds Tryz.pinned (OpenSpec.ofChange nestExcessesWrong)

/-- 'trunnellaw06.NestKerfs': WHATEVER THE INPUT: true; the input reads as it did. -/
def nestKerfsSpec : ChangeSpec := { name := "nestKerfs", fn := fun _ => fun
  | [d1, d2, d3] => { results := [.lit (.bool true)], args := [d1, d2, d3] }
  | _ => none }
def nestKerfsRow : OpenClaim := { program := "ytalgbhjnbgkneaagreatdoor", sum := "3f82b2bcb7f463c8eb68a29c395bfed87425474b52ba08a1c57b9828eeceb341", func := "trunnel/trunnellaw06.NestKerfs", spec := "nestKerfs", inPlace := ["math/bits.Add64", "math/bits.Sub64", "internal/abi.NoEscape", "internal/bytealg.MakeNoZero"], unfollowed := true, recurses := true, named := ["math/bits.divideError", "math/bits.overflowError", "internal/strconv.uint64pow10", "math/bits.deBruijn32tab", "math/bits.deBruijn64tab"], apart := false, laid := [("math/bits.deBruijn32tab", laid_math_bits_deBruijn32tab), ("math/bits.deBruijn64tab", laid_math_bits_deBruijn64tab), ("internal/strconv.uint64pow10", laid_internal_strconv_uint64pow10)] }
def NestKerfsSaid : Prop := nestKerfsRow.holds Tryz.pinned (OpenSpec.ofChange nestKerfsSpec)

/-- ITS FALSE NEIGHBOUR: 'it returns false'. Refute it at one input. -/
def nestKerfsWrong : ChangeSpec := { name := "nestKerfs", fn := fun _ => fun
  | [d1, d2, d3] => { results := [.lit (.bool false)], args := [d1, d2, d3] }
  | _ => none }
def NestKerfsWrongFalsely : Prop := nestKerfsRow.holds Tryz.pinned (OpenSpec.ofChange nestKerfsWrong)

/-- 'trunnellaw06.NestStocks': WHATEVER THE INPUT: true; the input reads as it did. -/
def nestStocksSpec : ChangeSpec := { name := "nestStocks", fn := fun _ => fun
  | [d1, d2, d3] => { results := [.lit (.bool true)], args := [d1, d2, d3] }
  | _ => none }
def nestStocksRow : OpenClaim := { program := "ytalgbhjnbgkneaagreatdoor", sum := "3f82b2bcb7f463c8eb68a29c395bfed87425474b52ba08a1c57b9828eeceb341", func := "trunnel/trunnellaw06.NestStocks", spec := "nestStocks", inPlace := ["math/bits.Add64", "math/bits.Sub64", "internal/abi.NoEscape", "internal/bytealg.MakeNoZero"], unfollowed := true, recurses := true, named := ["math/bits.divideError", "math/bits.overflowError", "internal/strconv.uint64pow10", "math/bits.deBruijn32tab", "math/bits.deBruijn64tab"], apart := false, laid := [("math/bits.deBruijn32tab", laid_math_bits_deBruijn32tab), ("math/bits.deBruijn64tab", laid_math_bits_deBruijn64tab), ("internal/strconv.uint64pow10", laid_internal_strconv_uint64pow10)] }
def NestStocksSaid : Prop := nestStocksRow.holds Tryz.pinned (OpenSpec.ofChange nestStocksSpec)

/-- ITS FALSE NEIGHBOUR: 'it returns false'. Refute it at one input. -/
def nestStocksWrong : ChangeSpec := { name := "nestStocks", fn := fun _ => fun
  | [d1, d2, d3] => { results := [.lit (.bool false)], args := [d1, d2, d3] }
  | _ => none }
def NestStocksWrongFalsely : Prop := nestStocksRow.holds Tryz.pinned (OpenSpec.ofChange nestStocksWrong)

/-- 'trunnellaw06.NestPrices': WHATEVER THE INPUT: true; the input reads as it did. -/
def nestPricesSpec : ChangeSpec := { name := "nestPrices", fn := fun _ => fun
  | [d1, d2, d3] => { results := [.lit (.bool true)], args := [d1, d2, d3] }
  | _ => none }
def nestPricesRow : OpenClaim := { program := "ytalgbhjnbgkneaagreatdoor", sum := "3f82b2bcb7f463c8eb68a29c395bfed87425474b52ba08a1c57b9828eeceb341", func := "trunnel/trunnellaw06.NestPrices", spec := "nestPrices", inPlace := ["math/bits.Add64", "math/bits.Sub64", "internal/abi.NoEscape", "internal/bytealg.MakeNoZero", "internal/bytealg.IndexByteString", "internal/bytealg.IndexString"], unfollowed := true, recurses := true, named := ["math/bits.divideError", "math/bits.overflowError", "internal/strconv.uint64pow10", "math/bits.deBruijn32tab", "math/bits.deBruijn64tab", "internal/bytealg.MaxLen", "strconv.ErrSyntax", "strconv.ErrRange"], apart := false, laid := [("math/bits.deBruijn32tab", laid_math_bits_deBruijn32tab), ("math/bits.deBruijn64tab", laid_math_bits_deBruijn64tab), ("internal/strconv.uint64pow10", laid_internal_strconv_uint64pow10), ("strconv.ErrRange", laid_strconv_ErrRange), ("strconv.ErrSyntax", laid_strconv_ErrSyntax)] }
def NestPricesSaid : Prop := nestPricesRow.holds Tryz.pinned (OpenSpec.ofChange nestPricesSpec)

/-- ITS FALSE NEIGHBOUR: 'it returns false'. Refute it at one input. -/
def nestPricesWrong : ChangeSpec := { name := "nestPrices", fn := fun _ => fun
  | [d1, d2, d3] => { results := [.lit (.bool false)], args := [d1, d2, d3] }
  | _ => none }
def NestPricesWrongFalsely : Prop := nestPricesRow.holds Tryz.pinned (OpenSpec.ofChange nestPricesWrong)

/-- 'trunnellaw06.NestDuality': WHATEVER THE INPUT: true; the input reads as it did. -/
def nestDualitySpec : ChangeSpec := { name := "nestDuality", fn := fun _ => fun
  | [d1, d2, d3] => { results := [.lit (.bool true)], args := [d1, d2, d3] }
  | _ => none }
def nestDualityRow : OpenClaim := { program := "ytalgbhjnbgkneaagreatdoor", sum := "3f82b2bcb7f463c8eb68a29c395bfed87425474b52ba08a1c57b9828eeceb341", func := "trunnel/trunnellaw06.NestDuality", spec := "nestDuality", inPlace := ["math/bits.Add64", "math/bits.Sub64", "internal/abi.NoEscape", "internal/bytealg.MakeNoZero", "internal/bytealg.IndexByteString", "internal/bytealg.IndexString"], unfollowed := true, recurses := true, named := ["math/bits.divideError", "math/bits.overflowError", "internal/strconv.uint64pow10", "math/bits.deBruijn32tab", "math/bits.deBruijn64tab", "internal/bytealg.MaxLen", "strconv.ErrSyntax", "strconv.ErrRange"], apart := false, laid := [("math/bits.deBruijn32tab", laid_math_bits_deBruijn32tab), ("math/bits.deBruijn64tab", laid_math_bits_deBruijn64tab), ("internal/strconv.uint64pow10", laid_internal_strconv_uint64pow10), ("strconv.ErrRange", laid_strconv_ErrRange), ("strconv.ErrSyntax", laid_strconv_ErrSyntax)] }
def NestDualitySaid : Prop := nestDualityRow.holds Tryz.pinned (OpenSpec.ofChange nestDualitySpec)

/-- ITS FALSE NEIGHBOUR: 'it returns false'. Refute it at one input. -/
def nestDualityWrong : ChangeSpec := { name := "nestDuality", fn := fun _ => fun
  | [d1, d2, d3] => { results := [.lit (.bool false)], args := [d1, d2, d3] }
  | _ => none }
def NestDualityWrongFalsely : Prop := nestDualityRow.holds Tryz.pinned (OpenSpec.ofChange nestDualityWrong)

/- THE SECOND FORM. 'bulk': how many values and letters a reading holds, each counted each time it is reached (what is shared counts as often as it is met; a slice's spare places count too). A statement '..UptoSaid' is the law's where the arguments, and the package variables that the reading takes, are together of bulk at most 1048576: NARROWER than '..Said'. Prove '..Said' where nothing that the law and all that it calls make is longer than what came in: it says more and counts as full. Else prove '..UptoSaid'. A law counts once. -/
mutual
def uptoBulk {H : Type} : DataW H → Nat
  | .lit (.string bytes) => bytes.length + 1
  | .lit _ => 1
  | .nil => 1
  | .ptr d => uptoBulk d + 1
  | .slice elems spare => uptoBulkAll elems + uptoBulkAll spare + 1
  | .agg parts => uptoBulkAll parts + 1
  | .iface _ d => uptoBulk d + 1
  | .map entries => uptoBulkEntries entries + 1
  | .held _ => 1
def uptoBulkAll {H : Type} : List (DataW H) → Nat
  | [] => 0
  | d :: r => uptoBulk d + uptoBulkAll r
def uptoBulkEntries {H : Type} : List (Lit × DataW H) → Nat
  | [] => 0
  | x :: r => uptoBulkEntry x + uptoBulkEntries r
def uptoBulkEntry {H : Type} : Lit × DataW H → Nat
  | (.string bytes, d) => bytes.length + uptoBulk d + 1
  | (_, d) => uptoBulk d + 1
 end
def uptoSmall : (H : Type) → List (DataW H) → Bool := fun _ ds => decide (uptoBulkAll ds ≤ 1048576)
def OpenSpec.upto (s : _root_.Go.ChangeSpec) : _root_.Go.OpenSpec := { _root_.Go.OpenSpec.ofChange s with cond := some uptoSmall }

/-- 'trunnellaw06.NestPlacings', WHERE WHAT IT READS IS OF BULK AT MOST 1048576: true; the input reads as it did. -/
def nestPlacingsUptoRow : OpenClaim := { program := "ytalgbhjnbgkneaagreatdoor", sum := "3f82b2bcb7f463c8eb68a29c395bfed87425474b52ba08a1c57b9828eeceb341", func := "trunnel/trunnellaw06.NestPlacings", spec := "nestPlacings", inPlace := ["math/bits.Add64", "math/bits.Sub64", "internal/abi.NoEscape", "internal/bytealg.MakeNoZero"], unfollowed := true, recurses := true, named := ["math/bits.divideError", "math/bits.overflowError", "internal/strconv.uint64pow10", "math/bits.deBruijn32tab", "math/bits.deBruijn64tab"], apart := false, laid := [("math/bits.deBruijn32tab", laid_math_bits_deBruijn32tab), ("math/bits.deBruijn64tab", laid_math_bits_deBruijn64tab), ("internal/strconv.uint64pow10", laid_internal_strconv_uint64pow10)], narrowed := true }
def NestPlacingsUptoSaid : Prop := nestPlacingsUptoRow.holds Tryz.pinned (OpenSpec.upto nestPlacingsSpec)

/-- 'trunnellaw06.NestFirsts', WHERE WHAT IT READS IS OF BULK AT MOST 1048576: true; the input reads as it did. -/
def nestFirstsUptoRow : OpenClaim := { program := "ytalgbhjnbgkneaagreatdoor", sum := "3f82b2bcb7f463c8eb68a29c395bfed87425474b52ba08a1c57b9828eeceb341", func := "trunnel/trunnellaw06.NestFirsts", spec := "nestFirsts", inPlace := ["math/bits.Add64", "math/bits.Sub64", "internal/abi.NoEscape", "internal/bytealg.MakeNoZero"], unfollowed := true, recurses := true, named := ["math/bits.divideError", "math/bits.overflowError", "internal/strconv.uint64pow10", "math/bits.deBruijn32tab", "math/bits.deBruijn64tab"], apart := false, laid := [("math/bits.deBruijn32tab", laid_math_bits_deBruijn32tab), ("math/bits.deBruijn64tab", laid_math_bits_deBruijn64tab), ("internal/strconv.uint64pow10", laid_internal_strconv_uint64pow10)], narrowed := true }
def NestFirstsUptoSaid : Prop := nestFirstsUptoRow.holds Tryz.pinned (OpenSpec.upto nestFirstsSpec)

/-- 'trunnellaw06.NestBests', WHERE WHAT IT READS IS OF BULK AT MOST 1048576: true; the input reads as it did. -/
def nestBestsUptoRow : OpenClaim := { program := "ytalgbhjnbgkneaagreatdoor", sum := "3f82b2bcb7f463c8eb68a29c395bfed87425474b52ba08a1c57b9828eeceb341", func := "trunnel/trunnellaw06.NestBests", spec := "nestBests", inPlace := ["math/bits.Add64", "math/bits.Sub64", "internal/abi.NoEscape", "internal/bytealg.MakeNoZero"], unfollowed := true, recurses := true, named := ["math/bits.divideError", "math/bits.overflowError", "internal/strconv.uint64pow10", "math/bits.deBruijn32tab", "math/bits.deBruijn64tab"], apart := false, laid := [("math/bits.deBruijn32tab", laid_math_bits_deBruijn32tab), ("math/bits.deBruijn64tab", laid_math_bits_deBruijn64tab), ("internal/strconv.uint64pow10", laid_internal_strconv_uint64pow10)], narrowed := true }
def NestBestsUptoSaid : Prop := nestBestsUptoRow.holds Tryz.pinned (OpenSpec.upto nestBestsSpec)

/-- 'trunnellaw06.NestBoards', WHERE WHAT IT READS IS OF BULK AT MOST 1048576: true; the input reads as it did. -/
def nestBoardsUptoRow : OpenClaim := { program := "ytalgbhjnbgkneaagreatdoor", sum := "3f82b2bcb7f463c8eb68a29c395bfed87425474b52ba08a1c57b9828eeceb341", func := "trunnel/trunnellaw06.NestBoards", spec := "nestBoards", inPlace := ["math/bits.Add64", "math/bits.Sub64", "internal/abi.NoEscape", "internal/bytealg.MakeNoZero"], unfollowed := true, recurses := true, named := ["math/bits.divideError", "math/bits.overflowError", "internal/strconv.uint64pow10", "math/bits.deBruijn32tab", "math/bits.deBruijn64tab"], apart := false, laid := [("math/bits.deBruijn32tab", laid_math_bits_deBruijn32tab), ("math/bits.deBruijn64tab", laid_math_bits_deBruijn64tab), ("internal/strconv.uint64pow10", laid_internal_strconv_uint64pow10)], narrowed := true }
def NestBoardsUptoSaid : Prop := nestBoardsUptoRow.holds Tryz.pinned (OpenSpec.upto nestBoardsSpec)

/-- 'trunnellaw06.NestMatches', WHERE WHAT IT READS IS OF BULK AT MOST 1048576: true; the input reads as it did. -/
def nestMatchesUptoRow : OpenClaim := { program := "ytalgbhjnbgkneaagreatdoor", sum := "3f82b2bcb7f463c8eb68a29c395bfed87425474b52ba08a1c57b9828eeceb341", func := "trunnel/trunnellaw06.NestMatches", spec := "nestMatches", inPlace := ["math/bits.Add64", "math/bits.Sub64", "internal/abi.NoEscape", "internal/bytealg.MakeNoZero"], unfollowed := true, recurses := true, named := ["math/bits.divideError", "math/bits.overflowError", "internal/strconv.uint64pow10", "math/bits.deBruijn32tab", "math/bits.deBruijn64tab"], apart := false, laid := [("math/bits.deBruijn32tab", laid_math_bits_deBruijn32tab), ("math/bits.deBruijn64tab", laid_math_bits_deBruijn64tab), ("internal/strconv.uint64pow10", laid_internal_strconv_uint64pow10)], narrowed := true }
def NestMatchesUptoSaid : Prop := nestMatchesUptoRow.holds Tryz.pinned (OpenSpec.upto nestMatchesSpec)

/-- 'trunnellaw06.NestMonotone', WHERE WHAT IT READS IS OF BULK AT MOST 1048576: true; the input reads as it did. -/
def nestMonotoneUptoRow : OpenClaim := { program := "ytalgbhjnbgkneaagreatdoor", sum := "3f82b2bcb7f463c8eb68a29c395bfed87425474b52ba08a1c57b9828eeceb341", func := "trunnel/trunnellaw06.NestMonotone", spec := "nestMonotone", inPlace := ["math/bits.Add64", "math/bits.Sub64", "internal/abi.NoEscape", "internal/bytealg.MakeNoZero"], unfollowed := true, recurses := true, named := ["math/bits.divideError", "math/bits.overflowError", "internal/strconv.uint64pow10", "math/bits.deBruijn32tab", "math/bits.deBruijn64tab"], apart := false, laid := [("math/bits.deBruijn32tab", laid_math_bits_deBruijn32tab), ("math/bits.deBruijn64tab", laid_math_bits_deBruijn64tab), ("internal/strconv.uint64pow10", laid_internal_strconv_uint64pow10)], narrowed := true }
def NestMonotoneUptoSaid : Prop := nestMonotoneUptoRow.holds Tryz.pinned (OpenSpec.upto nestMonotoneSpec)

/-- 'trunnellaw06.NestAssigns', WHERE WHAT IT READS IS OF BULK AT MOST 1048576: true; the input reads as it did. -/
def nestAssignsUptoRow : OpenClaim := { program := "ytalgbhjnbgkneaagreatdoor", sum := "3f82b2bcb7f463c8eb68a29c395bfed87425474b52ba08a1c57b9828eeceb341", func := "trunnel/trunnellaw06.NestAssigns", spec := "nestAssigns", inPlace := ["math/bits.Add64", "math/bits.Sub64", "internal/abi.NoEscape", "internal/bytealg.MakeNoZero"], unfollowed := true, recurses := true, named := ["math/bits.divideError", "math/bits.overflowError", "internal/strconv.uint64pow10", "math/bits.deBruijn32tab", "math/bits.deBruijn64tab"], apart := false, laid := [("math/bits.deBruijn32tab", laid_math_bits_deBruijn32tab), ("math/bits.deBruijn64tab", laid_math_bits_deBruijn64tab), ("internal/strconv.uint64pow10", laid_internal_strconv_uint64pow10)], narrowed := true }
def NestAssignsUptoSaid : Prop := nestAssignsUptoRow.holds Tryz.pinned (OpenSpec.upto nestAssignsSpec)

/-- 'trunnellaw06.NestLogs', WHERE WHAT IT READS IS OF BULK AT MOST 1048576: true; the input reads as it did. -/
def nestLogsUptoRow : OpenClaim := { program := "ytalgbhjnbgkneaagreatdoor", sum := "3f82b2bcb7f463c8eb68a29c395bfed87425474b52ba08a1c57b9828eeceb341", func := "trunnel/trunnellaw06.NestLogs", spec := "nestLogs", inPlace := ["math/bits.Add64", "math/bits.Sub64", "internal/abi.NoEscape", "internal/bytealg.MakeNoZero"], unfollowed := true, recurses := true, named := ["math/bits.divideError", "math/bits.overflowError", "internal/strconv.uint64pow10", "math/bits.deBruijn32tab", "math/bits.deBruijn64tab"], apart := false, laid := [("math/bits.deBruijn32tab", laid_math_bits_deBruijn32tab), ("math/bits.deBruijn64tab", laid_math_bits_deBruijn64tab), ("internal/strconv.uint64pow10", laid_internal_strconv_uint64pow10)], narrowed := true }
def NestLogsUptoSaid : Prop := nestLogsUptoRow.holds Tryz.pinned (OpenSpec.upto nestLogsSpec)

/-- 'trunnellaw06.NestRounds', WHERE WHAT IT READS IS OF BULK AT MOST 1048576: true; the input reads as it did. -/
def nestRoundsUptoRow : OpenClaim := { program := "ytalgbhjnbgkneaagreatdoor", sum := "3f82b2bcb7f463c8eb68a29c395bfed87425474b52ba08a1c57b9828eeceb341", func := "trunnel/trunnellaw06.NestRounds", spec := "nestRounds", inPlace := ["math/bits.Add64", "math/bits.Sub64", "internal/abi.NoEscape", "internal/bytealg.MakeNoZero"], unfollowed := true, recurses := true, named := ["math/bits.divideError", "math/bits.overflowError", "internal/strconv.uint64pow10", "math/bits.deBruijn32tab", "math/bits.deBruijn64tab"], apart := false, laid := [("math/bits.deBruijn32tab", laid_math_bits_deBruijn32tab), ("math/bits.deBruijn64tab", laid_math_bits_deBruijn64tab), ("internal/strconv.uint64pow10", laid_internal_strconv_uint64pow10)], narrowed := true }
def NestRoundsUptoSaid : Prop := nestRoundsUptoRow.holds Tryz.pinned (OpenSpec.upto nestRoundsSpec)

/-- 'trunnellaw06.NestExcesses', WHERE WHAT IT READS IS OF BULK AT MOST 1048576: true; the input reads as it did. -/
def nestExcessesUptoRow : OpenClaim := { program := "ytalgbhjnbgkneaagreatdoor", sum := "3f82b2bcb7f463c8eb68a29c395bfed87425474b52ba08a1c57b9828eeceb341", func := "trunnel/trunnellaw06.NestExcesses", spec := "nestExcesses", inPlace := ["math/bits.Add64", "math/bits.Sub64", "internal/abi.NoEscape", "internal/bytealg.MakeNoZero"], unfollowed := true, recurses := true, named := ["math/bits.divideError", "math/bits.overflowError", "internal/strconv.uint64pow10", "math/bits.deBruijn32tab", "math/bits.deBruijn64tab"], apart := false, laid := [("math/bits.deBruijn32tab", laid_math_bits_deBruijn32tab), ("math/bits.deBruijn64tab", laid_math_bits_deBruijn64tab), ("internal/strconv.uint64pow10", laid_internal_strconv_uint64pow10)], narrowed := true }
def NestExcessesUptoSaid : Prop := nestExcessesUptoRow.holds Tryz.pinned (OpenSpec.upto nestExcessesSpec)

/-- 'trunnellaw06.NestKerfs', WHERE WHAT IT READS IS OF BULK AT MOST 1048576: true; the input reads as it did. -/
def nestKerfsUptoRow : OpenClaim := { program := "ytalgbhjnbgkneaagreatdoor", sum := "3f82b2bcb7f463c8eb68a29c395bfed87425474b52ba08a1c57b9828eeceb341", func := "trunnel/trunnellaw06.NestKerfs", spec := "nestKerfs", inPlace := ["math/bits.Add64", "math/bits.Sub64", "internal/abi.NoEscape", "internal/bytealg.MakeNoZero"], unfollowed := true, recurses := true, named := ["math/bits.divideError", "math/bits.overflowError", "internal/strconv.uint64pow10", "math/bits.deBruijn32tab", "math/bits.deBruijn64tab"], apart := false, laid := [("math/bits.deBruijn32tab", laid_math_bits_deBruijn32tab), ("math/bits.deBruijn64tab", laid_math_bits_deBruijn64tab), ("internal/strconv.uint64pow10", laid_internal_strconv_uint64pow10)], narrowed := true }
def NestKerfsUptoSaid : Prop := nestKerfsUptoRow.holds Tryz.pinned (OpenSpec.upto nestKerfsSpec)

/-- 'trunnellaw06.NestStocks', WHERE WHAT IT READS IS OF BULK AT MOST 1048576: true; the input reads as it did. -/
def nestStocksUptoRow : OpenClaim := { program := "ytalgbhjnbgkneaagreatdoor", sum := "3f82b2bcb7f463c8eb68a29c395bfed87425474b52ba08a1c57b9828eeceb341", func := "trunnel/trunnellaw06.NestStocks", spec := "nestStocks", inPlace := ["math/bits.Add64", "math/bits.Sub64", "internal/abi.NoEscape", "internal/bytealg.MakeNoZero"], unfollowed := true, recurses := true, named := ["math/bits.divideError", "math/bits.overflowError", "internal/strconv.uint64pow10", "math/bits.deBruijn32tab", "math/bits.deBruijn64tab"], apart := false, laid := [("math/bits.deBruijn32tab", laid_math_bits_deBruijn32tab), ("math/bits.deBruijn64tab", laid_math_bits_deBruijn64tab), ("internal/strconv.uint64pow10", laid_internal_strconv_uint64pow10)], narrowed := true }
def NestStocksUptoSaid : Prop := nestStocksUptoRow.holds Tryz.pinned (OpenSpec.upto nestStocksSpec)

/-- 'trunnellaw06.NestPrices', WHERE WHAT IT READS IS OF BULK AT MOST 1048576: true; the input reads as it did. -/
def nestPricesUptoRow : OpenClaim := { program := "ytalgbhjnbgkneaagreatdoor", sum := "3f82b2bcb7f463c8eb68a29c395bfed87425474b52ba08a1c57b9828eeceb341", func := "trunnel/trunnellaw06.NestPrices", spec := "nestPrices", inPlace := ["math/bits.Add64", "math/bits.Sub64", "internal/abi.NoEscape", "internal/bytealg.MakeNoZero", "internal/bytealg.IndexByteString", "internal/bytealg.IndexString"], unfollowed := true, recurses := true, named := ["math/bits.divideError", "math/bits.overflowError", "internal/strconv.uint64pow10", "math/bits.deBruijn32tab", "math/bits.deBruijn64tab", "internal/bytealg.MaxLen", "strconv.ErrSyntax", "strconv.ErrRange"], apart := false, laid := [("math/bits.deBruijn32tab", laid_math_bits_deBruijn32tab), ("math/bits.deBruijn64tab", laid_math_bits_deBruijn64tab), ("internal/strconv.uint64pow10", laid_internal_strconv_uint64pow10), ("strconv.ErrRange", laid_strconv_ErrRange), ("strconv.ErrSyntax", laid_strconv_ErrSyntax)], narrowed := true }
def NestPricesUptoSaid : Prop := nestPricesUptoRow.holds Tryz.pinned (OpenSpec.upto nestPricesSpec)

/-- 'trunnellaw06.NestDuality', WHERE WHAT IT READS IS OF BULK AT MOST 1048576: true; the input reads as it did. -/
def nestDualityUptoRow : OpenClaim := { program := "ytalgbhjnbgkneaagreatdoor", sum := "3f82b2bcb7f463c8eb68a29c395bfed87425474b52ba08a1c57b9828eeceb341", func := "trunnel/trunnellaw06.NestDuality", spec := "nestDuality", inPlace := ["math/bits.Add64", "math/bits.Sub64", "internal/abi.NoEscape", "internal/bytealg.MakeNoZero", "internal/bytealg.IndexByteString", "internal/bytealg.IndexString"], unfollowed := true, recurses := true, named := ["math/bits.divideError", "math/bits.overflowError", "internal/strconv.uint64pow10", "math/bits.deBruijn32tab", "math/bits.deBruijn64tab", "internal/bytealg.MaxLen", "strconv.ErrSyntax", "strconv.ErrRange"], apart := false, laid := [("math/bits.deBruijn32tab", laid_math_bits_deBruijn32tab), ("math/bits.deBruijn64tab", laid_math_bits_deBruijn64tab), ("internal/strconv.uint64pow10", laid_internal_strconv_uint64pow10), ("strconv.ErrRange", laid_strconv_ErrRange), ("strconv.ErrSyntax", laid_strconv_ErrSyntax)], narrowed := true }
def NestDualityUptoSaid : Prop := nestDualityUptoRow.holds Tryz.pinned (OpenSpec.upto nestDualitySpec)

end Rows
end Go.Proofs.YtalgbhjnbgkneaaGreatDoor
