/-
  NARROWER THAN 'FOR EVERY INPUT', by the rows' own cells (each row's printed sentence says how): TariffGaps: laid · TariffDiagrams: laid · TariffCounts: laid · TariffSums: laid · TariffDiffers: laid · TariffClashes: laid · TariffCodes: laid · TariffFollows: laid · TariffLimit: laid · TariffOrders: laid · TariffLeans: laid · TariffBehind: laid · TariffLean: laid · TariffWitnesses: laid · TariffCanonical: laid.
  DERIVED. THE GIVEN ROWS OF THIS SEAT. 15 by the template 'for every input the law returns true; each argument reads behind the call as it read before'; 0 by the template 'total and deterministic' (their statements: YtnfnkllhjaemnaaDoorTotals.lean).
  GIVEN WITH THE SEED: the statements are not yours to turn. If you find one false, say at which input.
  Laid BY PROGRAM, IN A SANDBOX (cutbox-rows.mjs): the forced cells as the released guide's own fill.sh prints them over the translation 537da42b616c54d1… (all of the seat's roots in one cut). By AI agents, Wed Nov 11 2026. No macro, syntax, notation, axiom, sorry.
-/
import Derived.Test.YtnfnkllhjaemnaaDoorChecked
import GoSem.Claim
import GoSem.ClaimJoined
import GoSem.ClaimMapViews
import Derived.JoinedTies
import Derived.KernelRfl
namespace Go.Proofs.YtnfnkllhjaemnaaDoor
/- THE CELL 'sum', in the pinned program and in every row, IS THE sha256 OF THE DUMP (.gsa) THAT YtnfnkllhjaemnaaDoorProg.lean LOADS. Nothing in Lean hashes anything: it is a label: what it is worth is what the hold of that sum in a sandbox is worth. -/
noncomputable def Tryd.pinned : Pinned := { name := "ytnfnkllhjaemnaadoor", sum := "537da42b616c54d10d75253d2c28bbc548dc9a0f3811ce382721415e2da29734", checked := Tryd.checked }
namespace Rows
def none {H : Type} : Left H := { results := [], args := [] }

/- WHAT THE LISTED PACKAGE-LEVEL VARIABLES READ AS WHEN THE CALL BEGINS. Each datum BY PROGRAM (the guide's laid-datum.mjs) off the statement by which the dump's own 'gosem.cut.vars' lays the variable. In a bare row this is a premise. The card (YtnfnkllhjaemnaaDoorCards.lean) ties it to the program's text. -/
def laid_math_bits_deBruijn32tab {H : Type} : DataW H := .agg [.lit (.int .u8 0), .lit (.int .u8 1), .lit (.int .u8 28), .lit (.int .u8 2), .lit (.int .u8 29), .lit (.int .u8 14), .lit (.int .u8 24), .lit (.int .u8 3), .lit (.int .u8 30), .lit (.int .u8 22), .lit (.int .u8 20), .lit (.int .u8 15), .lit (.int .u8 25), .lit (.int .u8 17), .lit (.int .u8 4), .lit (.int .u8 8), .lit (.int .u8 31), .lit (.int .u8 27), .lit (.int .u8 13), .lit (.int .u8 23), .lit (.int .u8 21), .lit (.int .u8 19), .lit (.int .u8 16), .lit (.int .u8 7), .lit (.int .u8 26), .lit (.int .u8 12), .lit (.int .u8 18), .lit (.int .u8 6), .lit (.int .u8 11), .lit (.int .u8 5), .lit (.int .u8 10), .lit (.int .u8 9)]
def laid_math_bits_deBruijn64tab {H : Type} : DataW H := .agg [.lit (.int .u8 0), .lit (.int .u8 1), .lit (.int .u8 56), .lit (.int .u8 2), .lit (.int .u8 57), .lit (.int .u8 49), .lit (.int .u8 28), .lit (.int .u8 3), .lit (.int .u8 61), .lit (.int .u8 58), .lit (.int .u8 42), .lit (.int .u8 50), .lit (.int .u8 38), .lit (.int .u8 29), .lit (.int .u8 17), .lit (.int .u8 4), .lit (.int .u8 62), .lit (.int .u8 47), .lit (.int .u8 59), .lit (.int .u8 36), .lit (.int .u8 45), .lit (.int .u8 43), .lit (.int .u8 51), .lit (.int .u8 22), .lit (.int .u8 53), .lit (.int .u8 39), .lit (.int .u8 33), .lit (.int .u8 30), .lit (.int .u8 24), .lit (.int .u8 18), .lit (.int .u8 12), .lit (.int .u8 5), .lit (.int .u8 63), .lit (.int .u8 55), .lit (.int .u8 48), .lit (.int .u8 27), .lit (.int .u8 60), .lit (.int .u8 41), .lit (.int .u8 37), .lit (.int .u8 16), .lit (.int .u8 46), .lit (.int .u8 35), .lit (.int .u8 44), .lit (.int .u8 21), .lit (.int .u8 52), .lit (.int .u8 32), .lit (.int .u8 23), .lit (.int .u8 11), .lit (.int .u8 54), .lit (.int .u8 26), .lit (.int .u8 40), .lit (.int .u8 15), .lit (.int .u8 34), .lit (.int .u8 20), .lit (.int .u8 31), .lit (.int .u8 10), .lit (.int .u8 25), .lit (.int .u8 14), .lit (.int .u8 19), .lit (.int .u8 9), .lit (.int .u8 13), .lit (.int .u8 8), .lit (.int .u8 7), .lit (.int .u8 6)]
def laid_internal_strconv_uint64pow10 {H : Type} : DataW H := .agg [.lit (.int .u64 1), .lit (.int .u64 10), .lit (.int .u64 100), .lit (.int .u64 1000), .lit (.int .u64 10000), .lit (.int .u64 100000), .lit (.int .u64 1000000), .lit (.int .u64 10000000), .lit (.int .u64 100000000), .lit (.int .u64 1000000000), .lit (.int .u64 10000000000), .lit (.int .u64 100000000000), .lit (.int .u64 1000000000000), .lit (.int .u64 10000000000000), .lit (.int .u64 100000000000000), .lit (.int .u64 1000000000000000), .lit (.int .u64 10000000000000000), .lit (.int .u64 100000000000000000), .lit (.int .u64 1000000000000000000), .lit (.int .u64 10000000000000000000)]

/-- 'cocketlaw02.TariffGaps': WHATEVER THE INPUT: true; the input reads as it did. -/
def tariffGapsSpec : ChangeSpec := { name := "tariffGaps", fn := fun _ => fun
  | [d1, d2] => { results := [.lit (.bool true)], args := [d1, d2] }
  | _ => none }
def tariffGapsRow : OpenClaim := { program := "ytnfnkllhjaemnaadoor", sum := "537da42b616c54d10d75253d2c28bbc548dc9a0f3811ce382721415e2da29734", func := "cocket/cocketlaw02.TariffGaps", spec := "tariffGaps", inPlace := ["internal/abi.NoEscape"], unfollowed := true, recurses := true, named := ["internal/strconv.uint64pow10", "math/bits.deBruijn32tab", "math/bits.deBruijn64tab"], plainKeys := false, apart := false, laid := [("math/bits.deBruijn32tab", laid_math_bits_deBruijn32tab), ("math/bits.deBruijn64tab", laid_math_bits_deBruijn64tab), ("internal/strconv.uint64pow10", laid_internal_strconv_uint64pow10)] }
def TariffGapsSaid : Prop := tariffGapsRow.holds Tryd.pinned (OpenSpec.ofChange tariffGapsSpec)

/-- ITS FALSE NEIGHBOUR: 'it returns false'. Refute it at one input. -/
def tariffGapsWrong : ChangeSpec := { name := "tariffGaps", fn := fun _ => fun
  | [d1, d2] => { results := [.lit (.bool false)], args := [d1, d2] }
  | _ => none }
def TariffGapsWrongFalsely : Prop := tariffGapsRow.holds Tryd.pinned (OpenSpec.ofChange tariffGapsWrong)

/-- 'cocketlaw02.TariffDiagrams': WHATEVER THE INPUT: true; the input reads as it did. -/
def tariffDiagramsSpec : ChangeSpec := { name := "tariffDiagrams", fn := fun _ => fun
  | [d1, d2] => { results := [.lit (.bool true)], args := [d1, d2] }
  | _ => none }
def tariffDiagramsRow : OpenClaim := { program := "ytnfnkllhjaemnaadoor", sum := "537da42b616c54d10d75253d2c28bbc548dc9a0f3811ce382721415e2da29734", func := "cocket/cocketlaw02.TariffDiagrams", spec := "tariffDiagrams", inPlace := ["internal/abi.NoEscape"], unfollowed := true, recurses := true, named := ["internal/strconv.uint64pow10", "math/bits.deBruijn32tab", "math/bits.deBruijn64tab"], plainKeys := false, apart := false, laid := [("math/bits.deBruijn32tab", laid_math_bits_deBruijn32tab), ("math/bits.deBruijn64tab", laid_math_bits_deBruijn64tab), ("internal/strconv.uint64pow10", laid_internal_strconv_uint64pow10)] }
def TariffDiagramsSaid : Prop := tariffDiagramsRow.holds Tryd.pinned (OpenSpec.ofChange tariffDiagramsSpec)

/-- ITS FALSE NEIGHBOUR: 'it returns false'. Refute it at one input. -/
def tariffDiagramsWrong : ChangeSpec := { name := "tariffDiagrams", fn := fun _ => fun
  | [d1, d2] => { results := [.lit (.bool false)], args := [d1, d2] }
  | _ => none }
def TariffDiagramsWrongFalsely : Prop := tariffDiagramsRow.holds Tryd.pinned (OpenSpec.ofChange tariffDiagramsWrong)

/-- 'cocketlaw02.TariffCounts': WHATEVER THE INPUT: true; the input reads as it did. -/
def tariffCountsSpec : ChangeSpec := { name := "tariffCounts", fn := fun _ => fun
  | [d1, d2] => { results := [.lit (.bool true)], args := [d1, d2] }
  | _ => none }
def tariffCountsRow : OpenClaim := { program := "ytnfnkllhjaemnaadoor", sum := "537da42b616c54d10d75253d2c28bbc548dc9a0f3811ce382721415e2da29734", func := "cocket/cocketlaw02.TariffCounts", spec := "tariffCounts", inPlace := ["internal/abi.NoEscape"], unfollowed := true, recurses := true, named := ["internal/strconv.uint64pow10", "math/bits.deBruijn32tab", "math/bits.deBruijn64tab"], plainKeys := false, apart := false, laid := [("math/bits.deBruijn32tab", laid_math_bits_deBruijn32tab), ("math/bits.deBruijn64tab", laid_math_bits_deBruijn64tab), ("internal/strconv.uint64pow10", laid_internal_strconv_uint64pow10)] }
def TariffCountsSaid : Prop := tariffCountsRow.holds Tryd.pinned (OpenSpec.ofChange tariffCountsSpec)

/-- ITS FALSE NEIGHBOUR: 'it returns false'. Refute it at one input. -/
def tariffCountsWrong : ChangeSpec := { name := "tariffCounts", fn := fun _ => fun
  | [d1, d2] => { results := [.lit (.bool false)], args := [d1, d2] }
  | _ => none }
def TariffCountsWrongFalsely : Prop := tariffCountsRow.holds Tryd.pinned (OpenSpec.ofChange tariffCountsWrong)

/-- 'cocketlaw02.TariffSums': WHATEVER THE INPUT: true; the input reads as it did. -/
def tariffSumsSpec : ChangeSpec := { name := "tariffSums", fn := fun _ => fun
  | [d1, d2] => { results := [.lit (.bool true)], args := [d1, d2] }
  | _ => none }
def tariffSumsRow : OpenClaim := { program := "ytnfnkllhjaemnaadoor", sum := "537da42b616c54d10d75253d2c28bbc548dc9a0f3811ce382721415e2da29734", func := "cocket/cocketlaw02.TariffSums", spec := "tariffSums", inPlace := ["internal/abi.NoEscape"], unfollowed := true, recurses := true, named := ["internal/strconv.uint64pow10", "math/bits.deBruijn32tab", "math/bits.deBruijn64tab"], plainKeys := false, apart := false, laid := [("math/bits.deBruijn32tab", laid_math_bits_deBruijn32tab), ("math/bits.deBruijn64tab", laid_math_bits_deBruijn64tab), ("internal/strconv.uint64pow10", laid_internal_strconv_uint64pow10)] }
def TariffSumsSaid : Prop := tariffSumsRow.holds Tryd.pinned (OpenSpec.ofChange tariffSumsSpec)

/-- ITS FALSE NEIGHBOUR: 'it returns false'. Refute it at one input. -/
def tariffSumsWrong : ChangeSpec := { name := "tariffSums", fn := fun _ => fun
  | [d1, d2] => { results := [.lit (.bool false)], args := [d1, d2] }
  | _ => none }
def TariffSumsWrongFalsely : Prop := tariffSumsRow.holds Tryd.pinned (OpenSpec.ofChange tariffSumsWrong)

/-- 'cocketlaw02.TariffDiffers': WHATEVER THE INPUT: true; the input reads as it did. -/
def tariffDiffersSpec : ChangeSpec := { name := "tariffDiffers", fn := fun _ => fun
  | [d1, d2, d3] => { results := [.lit (.bool true)], args := [d1, d2, d3] }
  | _ => none }
def tariffDiffersRow : OpenClaim := { program := "ytnfnkllhjaemnaadoor", sum := "537da42b616c54d10d75253d2c28bbc548dc9a0f3811ce382721415e2da29734", func := "cocket/cocketlaw02.TariffDiffers", spec := "tariffDiffers", inPlace := ["internal/abi.NoEscape"], unfollowed := true, recurses := true, named := ["internal/strconv.uint64pow10", "math/bits.deBruijn32tab", "math/bits.deBruijn64tab"], plainKeys := false, apart := false, laid := [("math/bits.deBruijn32tab", laid_math_bits_deBruijn32tab), ("math/bits.deBruijn64tab", laid_math_bits_deBruijn64tab), ("internal/strconv.uint64pow10", laid_internal_strconv_uint64pow10)] }
def TariffDiffersSaid : Prop := tariffDiffersRow.holds Tryd.pinned (OpenSpec.ofChange tariffDiffersSpec)

/-- ITS FALSE NEIGHBOUR: 'it returns false'. Refute it at one input. -/
def tariffDiffersWrong : ChangeSpec := { name := "tariffDiffers", fn := fun _ => fun
  | [d1, d2, d3] => { results := [.lit (.bool false)], args := [d1, d2, d3] }
  | _ => none }
def TariffDiffersWrongFalsely : Prop := tariffDiffersRow.holds Tryd.pinned (OpenSpec.ofChange tariffDiffersWrong)

/-- 'cocketlaw02.TariffClashes': WHATEVER THE INPUT: true; the input reads as it did. -/
def tariffClashesSpec : ChangeSpec := { name := "tariffClashes", fn := fun _ => fun
  | [d1, d2, d3, d4] => { results := [.lit (.bool true)], args := [d1, d2, d3, d4] }
  | _ => none }
def tariffClashesRow : OpenClaim := { program := "ytnfnkllhjaemnaadoor", sum := "537da42b616c54d10d75253d2c28bbc548dc9a0f3811ce382721415e2da29734", func := "cocket/cocketlaw02.TariffClashes", spec := "tariffClashes", inPlace := ["internal/abi.NoEscape"], unfollowed := true, recurses := true, named := ["internal/strconv.uint64pow10", "math/bits.deBruijn32tab", "math/bits.deBruijn64tab"], plainKeys := false, apart := false, laid := [("math/bits.deBruijn32tab", laid_math_bits_deBruijn32tab), ("math/bits.deBruijn64tab", laid_math_bits_deBruijn64tab), ("internal/strconv.uint64pow10", laid_internal_strconv_uint64pow10)] }
def TariffClashesSaid : Prop := tariffClashesRow.holds Tryd.pinned (OpenSpec.ofChange tariffClashesSpec)

/-- ITS FALSE NEIGHBOUR: 'it returns false'. Refute it at one input. -/
def tariffClashesWrong : ChangeSpec := { name := "tariffClashes", fn := fun _ => fun
  | [d1, d2, d3, d4] => { results := [.lit (.bool false)], args := [d1, d2, d3, d4] }
  | _ => none }
def TariffClashesWrongFalsely : Prop := tariffClashesRow.holds Tryd.pinned (OpenSpec.ofChange tariffClashesWrong)

/-- 'cocketlaw02.TariffCodes': WHATEVER THE INPUT: true; the input reads as it did. -/
def tariffCodesSpec : ChangeSpec := { name := "tariffCodes", fn := fun _ => fun
  | [d1, d2, d3] => { results := [.lit (.bool true)], args := [d1, d2, d3] }
  | _ => none }
def tariffCodesRow : OpenClaim := { program := "ytnfnkllhjaemnaadoor", sum := "537da42b616c54d10d75253d2c28bbc548dc9a0f3811ce382721415e2da29734", func := "cocket/cocketlaw02.TariffCodes", spec := "tariffCodes", inPlace := ["internal/abi.NoEscape"], unfollowed := true, recurses := true, named := ["internal/strconv.uint64pow10", "math/bits.deBruijn32tab", "math/bits.deBruijn64tab"], plainKeys := false, apart := false, laid := [("math/bits.deBruijn32tab", laid_math_bits_deBruijn32tab), ("math/bits.deBruijn64tab", laid_math_bits_deBruijn64tab), ("internal/strconv.uint64pow10", laid_internal_strconv_uint64pow10)] }
def TariffCodesSaid : Prop := tariffCodesRow.holds Tryd.pinned (OpenSpec.ofChange tariffCodesSpec)

/-- ITS FALSE NEIGHBOUR: 'it returns false'. Refute it at one input. -/
def tariffCodesWrong : ChangeSpec := { name := "tariffCodes", fn := fun _ => fun
  | [d1, d2, d3] => { results := [.lit (.bool false)], args := [d1, d2, d3] }
  | _ => none }
def TariffCodesWrongFalsely : Prop := tariffCodesRow.holds Tryd.pinned (OpenSpec.ofChange tariffCodesWrong)

/-- 'cocketlaw02.TariffFollows': WHATEVER THE INPUT: true; the input reads as it did. -/
def tariffFollowsSpec : ChangeSpec := { name := "tariffFollows", fn := fun _ => fun
  | [d1, d2, d3] => { results := [.lit (.bool true)], args := [d1, d2, d3] }
  | _ => none }
def tariffFollowsRow : OpenClaim := { program := "ytnfnkllhjaemnaadoor", sum := "537da42b616c54d10d75253d2c28bbc548dc9a0f3811ce382721415e2da29734", func := "cocket/cocketlaw02.TariffFollows", spec := "tariffFollows", inPlace := ["internal/abi.NoEscape"], unfollowed := true, recurses := true, named := ["internal/strconv.uint64pow10", "math/bits.deBruijn32tab", "math/bits.deBruijn64tab"], plainKeys := false, apart := false, laid := [("math/bits.deBruijn32tab", laid_math_bits_deBruijn32tab), ("math/bits.deBruijn64tab", laid_math_bits_deBruijn64tab), ("internal/strconv.uint64pow10", laid_internal_strconv_uint64pow10)] }
def TariffFollowsSaid : Prop := tariffFollowsRow.holds Tryd.pinned (OpenSpec.ofChange tariffFollowsSpec)

/-- ITS FALSE NEIGHBOUR: 'it returns false'. Refute it at one input. -/
def tariffFollowsWrong : ChangeSpec := { name := "tariffFollows", fn := fun _ => fun
  | [d1, d2, d3] => { results := [.lit (.bool false)], args := [d1, d2, d3] }
  | _ => none }
def TariffFollowsWrongFalsely : Prop := tariffFollowsRow.holds Tryd.pinned (OpenSpec.ofChange tariffFollowsWrong)

/-- 'cocketlaw02.TariffLimit': WHATEVER THE INPUT: true; the input reads as it did. -/
def tariffLimitSpec : ChangeSpec := { name := "tariffLimit", fn := fun _ => fun
  | [d1, d2] => { results := [.lit (.bool true)], args := [d1, d2] }
  | _ => none }
def tariffLimitRow : OpenClaim := { program := "ytnfnkllhjaemnaadoor", sum := "537da42b616c54d10d75253d2c28bbc548dc9a0f3811ce382721415e2da29734", func := "cocket/cocketlaw02.TariffLimit", spec := "tariffLimit", inPlace := ["internal/abi.NoEscape"], unfollowed := true, recurses := true, named := ["internal/strconv.uint64pow10", "math/bits.deBruijn32tab", "math/bits.deBruijn64tab"], plainKeys := false, apart := false, laid := [("math/bits.deBruijn32tab", laid_math_bits_deBruijn32tab), ("math/bits.deBruijn64tab", laid_math_bits_deBruijn64tab), ("internal/strconv.uint64pow10", laid_internal_strconv_uint64pow10)] }
def TariffLimitSaid : Prop := tariffLimitRow.holds Tryd.pinned (OpenSpec.ofChange tariffLimitSpec)

/-- ITS FALSE NEIGHBOUR: 'it returns false'. Refute it at one input. -/
def tariffLimitWrong : ChangeSpec := { name := "tariffLimit", fn := fun _ => fun
  | [d1, d2] => { results := [.lit (.bool false)], args := [d1, d2] }
  | _ => none }
def TariffLimitWrongFalsely : Prop := tariffLimitRow.holds Tryd.pinned (OpenSpec.ofChange tariffLimitWrong)

/-- 'cocketlaw02.TariffOrders': WHATEVER THE INPUT: true; the input reads as it did. -/
def tariffOrdersSpec : ChangeSpec := { name := "tariffOrders", fn := fun _ => fun
  | [d1, d2, d3] => { results := [.lit (.bool true)], args := [d1, d2, d3] }
  | _ => none }
def tariffOrdersRow : OpenClaim := { program := "ytnfnkllhjaemnaadoor", sum := "537da42b616c54d10d75253d2c28bbc548dc9a0f3811ce382721415e2da29734", func := "cocket/cocketlaw02.TariffOrders", spec := "tariffOrders", inPlace := ["internal/abi.NoEscape"], unfollowed := true, recurses := true, named := ["internal/strconv.uint64pow10", "math/bits.deBruijn32tab", "math/bits.deBruijn64tab"], plainKeys := false, apart := false, laid := [("math/bits.deBruijn32tab", laid_math_bits_deBruijn32tab), ("math/bits.deBruijn64tab", laid_math_bits_deBruijn64tab), ("internal/strconv.uint64pow10", laid_internal_strconv_uint64pow10)] }
def TariffOrdersSaid : Prop := tariffOrdersRow.holds Tryd.pinned (OpenSpec.ofChange tariffOrdersSpec)

/-- ITS FALSE NEIGHBOUR: 'it returns false'. Refute it at one input. -/
def tariffOrdersWrong : ChangeSpec := { name := "tariffOrders", fn := fun _ => fun
  | [d1, d2, d3] => { results := [.lit (.bool false)], args := [d1, d2, d3] }
  | _ => none }
def TariffOrdersWrongFalsely : Prop := tariffOrdersRow.holds Tryd.pinned (OpenSpec.ofChange tariffOrdersWrong)

/-- 'cocketlaw02.TariffLeans': WHATEVER THE INPUT: true; the input reads as it did. -/
def tariffLeansSpec : ChangeSpec := { name := "tariffLeans", fn := fun _ => fun
  | [d1, d2] => { results := [.lit (.bool true)], args := [d1, d2] }
  | _ => none }
def tariffLeansRow : OpenClaim := { program := "ytnfnkllhjaemnaadoor", sum := "537da42b616c54d10d75253d2c28bbc548dc9a0f3811ce382721415e2da29734", func := "cocket/cocketlaw02.TariffLeans", spec := "tariffLeans", inPlace := ["internal/abi.NoEscape"], unfollowed := true, recurses := true, named := ["internal/strconv.uint64pow10", "math/bits.deBruijn32tab", "math/bits.deBruijn64tab"], plainKeys := false, apart := false, laid := [("math/bits.deBruijn32tab", laid_math_bits_deBruijn32tab), ("math/bits.deBruijn64tab", laid_math_bits_deBruijn64tab), ("internal/strconv.uint64pow10", laid_internal_strconv_uint64pow10)] }
def TariffLeansSaid : Prop := tariffLeansRow.holds Tryd.pinned (OpenSpec.ofChange tariffLeansSpec)

/-- ITS FALSE NEIGHBOUR: 'it returns false'. Refute it at one input. -/
def tariffLeansWrong : ChangeSpec := { name := "tariffLeans", fn := fun _ => fun
  | [d1, d2] => { results := [.lit (.bool false)], args := [d1, d2] }
  | _ => none }
def TariffLeansWrongFalsely : Prop := tariffLeansRow.holds Tryd.pinned (OpenSpec.ofChange tariffLeansWrong)

/-- 'cocketlaw02.TariffBehind': WHATEVER THE INPUT: true; the input reads as it did. -/
def tariffBehindSpec : ChangeSpec := { name := "tariffBehind", fn := fun _ => fun
  | [d1, d2, d3, d4] => { results := [.lit (.bool true)], args := [d1, d2, d3, d4] }
  | _ => none }
def tariffBehindRow : OpenClaim := { program := "ytnfnkllhjaemnaadoor", sum := "537da42b616c54d10d75253d2c28bbc548dc9a0f3811ce382721415e2da29734", func := "cocket/cocketlaw02.TariffBehind", spec := "tariffBehind", inPlace := ["internal/abi.NoEscape"], unfollowed := true, recurses := true, named := ["internal/strconv.uint64pow10", "math/bits.deBruijn32tab", "math/bits.deBruijn64tab"], plainKeys := false, apart := false, laid := [("math/bits.deBruijn32tab", laid_math_bits_deBruijn32tab), ("math/bits.deBruijn64tab", laid_math_bits_deBruijn64tab), ("internal/strconv.uint64pow10", laid_internal_strconv_uint64pow10)] }
def TariffBehindSaid : Prop := tariffBehindRow.holds Tryd.pinned (OpenSpec.ofChange tariffBehindSpec)

/-- ITS FALSE NEIGHBOUR: 'it returns false'. Refute it at one input. -/
def tariffBehindWrong : ChangeSpec := { name := "tariffBehind", fn := fun _ => fun
  | [d1, d2, d3, d4] => { results := [.lit (.bool false)], args := [d1, d2, d3, d4] }
  | _ => none }
def TariffBehindWrongFalsely : Prop := tariffBehindRow.holds Tryd.pinned (OpenSpec.ofChange tariffBehindWrong)

/-- 'cocketlaw02.TariffLean': WHATEVER THE INPUT: true; the input reads as it did. -/
def tariffLeanSpec : ChangeSpec := { name := "tariffLean", fn := fun _ => fun
  | [d1, d2] => { results := [.lit (.bool true)], args := [d1, d2] }
  | _ => none }
def tariffLeanRow : OpenClaim := { program := "ytnfnkllhjaemnaadoor", sum := "537da42b616c54d10d75253d2c28bbc548dc9a0f3811ce382721415e2da29734", func := "cocket/cocketlaw02.TariffLean", spec := "tariffLean", inPlace := ["internal/abi.NoEscape"], unfollowed := true, recurses := true, named := ["internal/strconv.uint64pow10", "math/bits.deBruijn32tab", "math/bits.deBruijn64tab"], plainKeys := false, apart := false, laid := [("math/bits.deBruijn32tab", laid_math_bits_deBruijn32tab), ("math/bits.deBruijn64tab", laid_math_bits_deBruijn64tab), ("internal/strconv.uint64pow10", laid_internal_strconv_uint64pow10)] }
def TariffLeanSaid : Prop := tariffLeanRow.holds Tryd.pinned (OpenSpec.ofChange tariffLeanSpec)

/-- ITS FALSE NEIGHBOUR: 'it returns false'. Refute it at one input. -/
def tariffLeanWrong : ChangeSpec := { name := "tariffLean", fn := fun _ => fun
  | [d1, d2] => { results := [.lit (.bool false)], args := [d1, d2] }
  | _ => none }
def TariffLeanWrongFalsely : Prop := tariffLeanRow.holds Tryd.pinned (OpenSpec.ofChange tariffLeanWrong)

/-- 'cocketlaw02.TariffWitnesses': WHATEVER THE INPUT: true; the input reads as it did. -/
def tariffWitnessesSpec : ChangeSpec := { name := "tariffWitnesses", fn := fun _ => fun
  | [d1, d2, d3, d4, d5, d6] => { results := [.lit (.bool true)], args := [d1, d2, d3, d4, d5, d6] }
  | _ => none }
def tariffWitnessesRow : OpenClaim := { program := "ytnfnkllhjaemnaadoor", sum := "537da42b616c54d10d75253d2c28bbc548dc9a0f3811ce382721415e2da29734", func := "cocket/cocketlaw02.TariffWitnesses", spec := "tariffWitnesses", inPlace := ["internal/abi.NoEscape"], unfollowed := true, recurses := true, named := ["internal/strconv.uint64pow10", "math/bits.deBruijn32tab", "math/bits.deBruijn64tab"], plainKeys := false, apart := false, laid := [("math/bits.deBruijn32tab", laid_math_bits_deBruijn32tab), ("math/bits.deBruijn64tab", laid_math_bits_deBruijn64tab), ("internal/strconv.uint64pow10", laid_internal_strconv_uint64pow10)] }
def TariffWitnessesSaid : Prop := tariffWitnessesRow.holds Tryd.pinned (OpenSpec.ofChange tariffWitnessesSpec)

/-- ITS FALSE NEIGHBOUR: 'it returns false'. Refute it at one input. -/
def tariffWitnessesWrong : ChangeSpec := { name := "tariffWitnesses", fn := fun _ => fun
  | [d1, d2, d3, d4, d5, d6] => { results := [.lit (.bool false)], args := [d1, d2, d3, d4, d5, d6] }
  | _ => none }
def TariffWitnessesWrongFalsely : Prop := tariffWitnessesRow.holds Tryd.pinned (OpenSpec.ofChange tariffWitnessesWrong)

/-- 'cocketlaw02.TariffCanonical': WHATEVER THE INPUT: true; the input reads as it did. -/
def tariffCanonicalSpec : ChangeSpec := { name := "tariffCanonical", fn := fun _ => fun
  | [d1, d2, d3, d4] => { results := [.lit (.bool true)], args := [d1, d2, d3, d4] }
  | _ => none }
def tariffCanonicalRow : OpenClaim := { program := "ytnfnkllhjaemnaadoor", sum := "537da42b616c54d10d75253d2c28bbc548dc9a0f3811ce382721415e2da29734", func := "cocket/cocketlaw02.TariffCanonical", spec := "tariffCanonical", inPlace := ["internal/abi.NoEscape"], unfollowed := true, recurses := true, named := ["internal/strconv.uint64pow10", "math/bits.deBruijn32tab", "math/bits.deBruijn64tab"], plainKeys := false, apart := false, laid := [("math/bits.deBruijn32tab", laid_math_bits_deBruijn32tab), ("math/bits.deBruijn64tab", laid_math_bits_deBruijn64tab), ("internal/strconv.uint64pow10", laid_internal_strconv_uint64pow10)] }
def TariffCanonicalSaid : Prop := tariffCanonicalRow.holds Tryd.pinned (OpenSpec.ofChange tariffCanonicalSpec)

/-- ITS FALSE NEIGHBOUR: 'it returns false'. Refute it at one input. -/
def tariffCanonicalWrong : ChangeSpec := { name := "tariffCanonical", fn := fun _ => fun
  | [d1, d2, d3, d4] => { results := [.lit (.bool false)], args := [d1, d2, d3, d4] }
  | _ => none }
def TariffCanonicalWrongFalsely : Prop := tariffCanonicalRow.holds Tryd.pinned (OpenSpec.ofChange tariffCanonicalWrong)

/- THE SECOND FORM. 'bulk': how many values and letters a reading holds, each counted each time it is reached (what is shared counts as often as it is met; a slice's spare places count too). A statement '..UptoSaid' is the law's where the arguments, and the package variables that the reading takes, are together of bulk at most 1048576: NARROWER than '..Said'. Prove '..Said' where nothing that the law and all that it calls make is longer than what came in: it says more and counts as full. Else prove '..UptoSaid'. A law counts once. -/
mutual
def uptoBulk {H : Type} : DataW H → Nat
  | .lit (.string bytes) => bytes.length + 1
  | .lit _ => 1
  | .nil => 1
  | .ptr d => uptoBulk d + 1
  | .slice elems spare => uptoBulkAll elems + uptoBulkAll spare + 1
  | .agg parts => uptoBulkAll parts + 1
  | .iface _ d => uptoBulk d + 1
  | .map entries => uptoBulkEntries entries + 1
  | .held _ => 1
def uptoBulkAll {H : Type} : List (DataW H) → Nat
  | [] => 0
  | d :: r => uptoBulk d + uptoBulkAll r
def uptoBulkEntries {H : Type} : List (Lit × DataW H) → Nat
  | [] => 0
  | x :: r => uptoBulkEntry x + uptoBulkEntries r
def uptoBulkEntry {H : Type} : Lit × DataW H → Nat
  | (.string bytes, d) => bytes.length + uptoBulk d + 1
  | (_, d) => uptoBulk d + 1
 end
def uptoSmall : (H : Type) → List (DataW H) → Bool := fun _ ds => decide (uptoBulkAll ds ≤ 1048576)
def OpenSpec.upto (s : _root_.Go.ChangeSpec) : _root_.Go.OpenSpec := { _root_.Go.OpenSpec.ofChange s with cond := some uptoSmall }

/-- 'cocketlaw02.TariffGaps', WHERE WHAT IT READS IS OF BULK AT MOST 1048576: true; the input reads as it did. -/
def tariffGapsUptoRow : OpenClaim := { program := "ytnfnkllhjaemnaadoor", sum := "537da42b616c54d10d75253d2c28bbc548dc9a0f3811ce382721415e2da29734", func := "cocket/cocketlaw02.TariffGaps", spec := "tariffGaps", inPlace := ["internal/abi.NoEscape"], unfollowed := true, recurses := true, named := ["internal/strconv.uint64pow10", "math/bits.deBruijn32tab", "math/bits.deBruijn64tab"], plainKeys := false, apart := false, laid := [("math/bits.deBruijn32tab", laid_math_bits_deBruijn32tab), ("math/bits.deBruijn64tab", laid_math_bits_deBruijn64tab), ("internal/strconv.uint64pow10", laid_internal_strconv_uint64pow10)], narrowed := true }
def TariffGapsUptoSaid : Prop := tariffGapsUptoRow.holds Tryd.pinned (OpenSpec.upto tariffGapsSpec)

/-- 'cocketlaw02.TariffDiagrams', WHERE WHAT IT READS IS OF BULK AT MOST 1048576: true; the input reads as it did. -/
def tariffDiagramsUptoRow : OpenClaim := { program := "ytnfnkllhjaemnaadoor", sum := "537da42b616c54d10d75253d2c28bbc548dc9a0f3811ce382721415e2da29734", func := "cocket/cocketlaw02.TariffDiagrams", spec := "tariffDiagrams", inPlace := ["internal/abi.NoEscape"], unfollowed := true, recurses := true, named := ["internal/strconv.uint64pow10", "math/bits.deBruijn32tab", "math/bits.deBruijn64tab"], plainKeys := false, apart := false, laid := [("math/bits.deBruijn32tab", laid_math_bits_deBruijn32tab), ("math/bits.deBruijn64tab", laid_math_bits_deBruijn64tab), ("internal/strconv.uint64pow10", laid_internal_strconv_uint64pow10)], narrowed := true }
def TariffDiagramsUptoSaid : Prop := tariffDiagramsUptoRow.holds Tryd.pinned (OpenSpec.upto tariffDiagramsSpec)

/-- 'cocketlaw02.TariffCounts', WHERE WHAT IT READS IS OF BULK AT MOST 1048576: true; the input reads as it did. -/
def tariffCountsUptoRow : OpenClaim := { program := "ytnfnkllhjaemnaadoor", sum := "537da42b616c54d10d75253d2c28bbc548dc9a0f3811ce382721415e2da29734", func := "cocket/cocketlaw02.TariffCounts", spec := "tariffCounts", inPlace := ["internal/abi.NoEscape"], unfollowed := true, recurses := true, named := ["internal/strconv.uint64pow10", "math/bits.deBruijn32tab", "math/bits.deBruijn64tab"], plainKeys := false, apart := false, laid := [("math/bits.deBruijn32tab", laid_math_bits_deBruijn32tab), ("math/bits.deBruijn64tab", laid_math_bits_deBruijn64tab), ("internal/strconv.uint64pow10", laid_internal_strconv_uint64pow10)], narrowed := true }
def TariffCountsUptoSaid : Prop := tariffCountsUptoRow.holds Tryd.pinned (OpenSpec.upto tariffCountsSpec)

/-- 'cocketlaw02.TariffSums', WHERE WHAT IT READS IS OF BULK AT MOST 1048576: true; the input reads as it did. -/
def tariffSumsUptoRow : OpenClaim := { program := "ytnfnkllhjaemnaadoor", sum := "537da42b616c54d10d75253d2c28bbc548dc9a0f3811ce382721415e2da29734", func := "cocket/cocketlaw02.TariffSums", spec := "tariffSums", inPlace := ["internal/abi.NoEscape"], unfollowed := true, recurses := true, named := ["internal/strconv.uint64pow10", "math/bits.deBruijn32tab", "math/bits.deBruijn64tab"], plainKeys := false, apart := false, laid := [("math/bits.deBruijn32tab", laid_math_bits_deBruijn32tab), ("math/bits.deBruijn64tab", laid_math_bits_deBruijn64tab), ("internal/strconv.uint64pow10", laid_internal_strconv_uint64pow10)], narrowed := true }
def TariffSumsUptoSaid : Prop := tariffSumsUptoRow.holds Tryd.pinned (OpenSpec.upto tariffSumsSpec)

/-- 'cocketlaw02.TariffDiffers', WHERE WHAT IT READS IS OF BULK AT MOST 1048576: true; the input reads as it did. -/
def tariffDiffersUptoRow : OpenClaim := { program := "ytnfnkllhjaemnaadoor", sum := "537da42b616c54d10d75253d2c28bbc548dc9a0f3811ce382721415e2da29734", func := "cocket/cocketlaw02.TariffDiffers", spec := "tariffDiffers", inPlace := ["internal/abi.NoEscape"], unfollowed := true, recurses := true, named := ["internal/strconv.uint64pow10", "math/bits.deBruijn32tab", "math/bits.deBruijn64tab"], plainKeys := false, apart := false, laid := [("math/bits.deBruijn32tab", laid_math_bits_deBruijn32tab), ("math/bits.deBruijn64tab", laid_math_bits_deBruijn64tab), ("internal/strconv.uint64pow10", laid_internal_strconv_uint64pow10)], narrowed := true }
def TariffDiffersUptoSaid : Prop := tariffDiffersUptoRow.holds Tryd.pinned (OpenSpec.upto tariffDiffersSpec)

/-- 'cocketlaw02.TariffClashes', WHERE WHAT IT READS IS OF BULK AT MOST 1048576: true; the input reads as it did. -/
def tariffClashesUptoRow : OpenClaim := { program := "ytnfnkllhjaemnaadoor", sum := "537da42b616c54d10d75253d2c28bbc548dc9a0f3811ce382721415e2da29734", func := "cocket/cocketlaw02.TariffClashes", spec := "tariffClashes", inPlace := ["internal/abi.NoEscape"], unfollowed := true, recurses := true, named := ["internal/strconv.uint64pow10", "math/bits.deBruijn32tab", "math/bits.deBruijn64tab"], plainKeys := false, apart := false, laid := [("math/bits.deBruijn32tab", laid_math_bits_deBruijn32tab), ("math/bits.deBruijn64tab", laid_math_bits_deBruijn64tab), ("internal/strconv.uint64pow10", laid_internal_strconv_uint64pow10)], narrowed := true }
def TariffClashesUptoSaid : Prop := tariffClashesUptoRow.holds Tryd.pinned (OpenSpec.upto tariffClashesSpec)

/-- 'cocketlaw02.TariffCodes', WHERE WHAT IT READS IS OF BULK AT MOST 1048576: true; the input reads as it did. -/
def tariffCodesUptoRow : OpenClaim := { program := "ytnfnkllhjaemnaadoor", sum := "537da42b616c54d10d75253d2c28bbc548dc9a0f3811ce382721415e2da29734", func := "cocket/cocketlaw02.TariffCodes", spec := "tariffCodes", inPlace := ["internal/abi.NoEscape"], unfollowed := true, recurses := true, named := ["internal/strconv.uint64pow10", "math/bits.deBruijn32tab", "math/bits.deBruijn64tab"], plainKeys := false, apart := false, laid := [("math/bits.deBruijn32tab", laid_math_bits_deBruijn32tab), ("math/bits.deBruijn64tab", laid_math_bits_deBruijn64tab), ("internal/strconv.uint64pow10", laid_internal_strconv_uint64pow10)], narrowed := true }
def TariffCodesUptoSaid : Prop := tariffCodesUptoRow.holds Tryd.pinned (OpenSpec.upto tariffCodesSpec)

/-- 'cocketlaw02.TariffFollows', WHERE WHAT IT READS IS OF BULK AT MOST 1048576: true; the input reads as it did. -/
def tariffFollowsUptoRow : OpenClaim := { program := "ytnfnkllhjaemnaadoor", sum := "537da42b616c54d10d75253d2c28bbc548dc9a0f3811ce382721415e2da29734", func := "cocket/cocketlaw02.TariffFollows", spec := "tariffFollows", inPlace := ["internal/abi.NoEscape"], unfollowed := true, recurses := true, named := ["internal/strconv.uint64pow10", "math/bits.deBruijn32tab", "math/bits.deBruijn64tab"], plainKeys := false, apart := false, laid := [("math/bits.deBruijn32tab", laid_math_bits_deBruijn32tab), ("math/bits.deBruijn64tab", laid_math_bits_deBruijn64tab), ("internal/strconv.uint64pow10", laid_internal_strconv_uint64pow10)], narrowed := true }
def TariffFollowsUptoSaid : Prop := tariffFollowsUptoRow.holds Tryd.pinned (OpenSpec.upto tariffFollowsSpec)

/-- 'cocketlaw02.TariffLimit', WHERE WHAT IT READS IS OF BULK AT MOST 1048576: true; the input reads as it did. -/
def tariffLimitUptoRow : OpenClaim := { program := "ytnfnkllhjaemnaadoor", sum := "537da42b616c54d10d75253d2c28bbc548dc9a0f3811ce382721415e2da29734", func := "cocket/cocketlaw02.TariffLimit", spec := "tariffLimit", inPlace := ["internal/abi.NoEscape"], unfollowed := true, recurses := true, named := ["internal/strconv.uint64pow10", "math/bits.deBruijn32tab", "math/bits.deBruijn64tab"], plainKeys := false, apart := false, laid := [("math/bits.deBruijn32tab", laid_math_bits_deBruijn32tab), ("math/bits.deBruijn64tab", laid_math_bits_deBruijn64tab), ("internal/strconv.uint64pow10", laid_internal_strconv_uint64pow10)], narrowed := true }
def TariffLimitUptoSaid : Prop := tariffLimitUptoRow.holds Tryd.pinned (OpenSpec.upto tariffLimitSpec)

/-- 'cocketlaw02.TariffOrders', WHERE WHAT IT READS IS OF BULK AT MOST 1048576: true; the input reads as it did. -/
def tariffOrdersUptoRow : OpenClaim := { program := "ytnfnkllhjaemnaadoor", sum := "537da42b616c54d10d75253d2c28bbc548dc9a0f3811ce382721415e2da29734", func := "cocket/cocketlaw02.TariffOrders", spec := "tariffOrders", inPlace := ["internal/abi.NoEscape"], unfollowed := true, recurses := true, named := ["internal/strconv.uint64pow10", "math/bits.deBruijn32tab", "math/bits.deBruijn64tab"], plainKeys := false, apart := false, laid := [("math/bits.deBruijn32tab", laid_math_bits_deBruijn32tab), ("math/bits.deBruijn64tab", laid_math_bits_deBruijn64tab), ("internal/strconv.uint64pow10", laid_internal_strconv_uint64pow10)], narrowed := true }
def TariffOrdersUptoSaid : Prop := tariffOrdersUptoRow.holds Tryd.pinned (OpenSpec.upto tariffOrdersSpec)

/-- 'cocketlaw02.TariffLeans', WHERE WHAT IT READS IS OF BULK AT MOST 1048576: true; the input reads as it did. -/
def tariffLeansUptoRow : OpenClaim := { program := "ytnfnkllhjaemnaadoor", sum := "537da42b616c54d10d75253d2c28bbc548dc9a0f3811ce382721415e2da29734", func := "cocket/cocketlaw02.TariffLeans", spec := "tariffLeans", inPlace := ["internal/abi.NoEscape"], unfollowed := true, recurses := true, named := ["internal/strconv.uint64pow10", "math/bits.deBruijn32tab", "math/bits.deBruijn64tab"], plainKeys := false, apart := false, laid := [("math/bits.deBruijn32tab", laid_math_bits_deBruijn32tab), ("math/bits.deBruijn64tab", laid_math_bits_deBruijn64tab), ("internal/strconv.uint64pow10", laid_internal_strconv_uint64pow10)], narrowed := true }
def TariffLeansUptoSaid : Prop := tariffLeansUptoRow.holds Tryd.pinned (OpenSpec.upto tariffLeansSpec)

/-- 'cocketlaw02.TariffBehind', WHERE WHAT IT READS IS OF BULK AT MOST 1048576: true; the input reads as it did. -/
def tariffBehindUptoRow : OpenClaim := { program := "ytnfnkllhjaemnaadoor", sum := "537da42b616c54d10d75253d2c28bbc548dc9a0f3811ce382721415e2da29734", func := "cocket/cocketlaw02.TariffBehind", spec := "tariffBehind", inPlace := ["internal/abi.NoEscape"], unfollowed := true, recurses := true, named := ["internal/strconv.uint64pow10", "math/bits.deBruijn32tab", "math/bits.deBruijn64tab"], plainKeys := false, apart := false, laid := [("math/bits.deBruijn32tab", laid_math_bits_deBruijn32tab), ("math/bits.deBruijn64tab", laid_math_bits_deBruijn64tab), ("internal/strconv.uint64pow10", laid_internal_strconv_uint64pow10)], narrowed := true }
def TariffBehindUptoSaid : Prop := tariffBehindUptoRow.holds Tryd.pinned (OpenSpec.upto tariffBehindSpec)

/-- 'cocketlaw02.TariffLean', WHERE WHAT IT READS IS OF BULK AT MOST 1048576: true; the input reads as it did. -/
def tariffLeanUptoRow : OpenClaim := { program := "ytnfnkllhjaemnaadoor", sum := "537da42b616c54d10d75253d2c28bbc548dc9a0f3811ce382721415e2da29734", func := "cocket/cocketlaw02.TariffLean", spec := "tariffLean", inPlace := ["internal/abi.NoEscape"], unfollowed := true, recurses := true, named := ["internal/strconv.uint64pow10", "math/bits.deBruijn32tab", "math/bits.deBruijn64tab"], plainKeys := false, apart := false, laid := [("math/bits.deBruijn32tab", laid_math_bits_deBruijn32tab), ("math/bits.deBruijn64tab", laid_math_bits_deBruijn64tab), ("internal/strconv.uint64pow10", laid_internal_strconv_uint64pow10)], narrowed := true }
def TariffLeanUptoSaid : Prop := tariffLeanUptoRow.holds Tryd.pinned (OpenSpec.upto tariffLeanSpec)

/-- 'cocketlaw02.TariffWitnesses', WHERE WHAT IT READS IS OF BULK AT MOST 1048576: true; the input reads as it did. -/
def tariffWitnessesUptoRow : OpenClaim := { program := "ytnfnkllhjaemnaadoor", sum := "537da42b616c54d10d75253d2c28bbc548dc9a0f3811ce382721415e2da29734", func := "cocket/cocketlaw02.TariffWitnesses", spec := "tariffWitnesses", inPlace := ["internal/abi.NoEscape"], unfollowed := true, recurses := true, named := ["internal/strconv.uint64pow10", "math/bits.deBruijn32tab", "math/bits.deBruijn64tab"], plainKeys := false, apart := false, laid := [("math/bits.deBruijn32tab", laid_math_bits_deBruijn32tab), ("math/bits.deBruijn64tab", laid_math_bits_deBruijn64tab), ("internal/strconv.uint64pow10", laid_internal_strconv_uint64pow10)], narrowed := true }
def TariffWitnessesUptoSaid : Prop := tariffWitnessesUptoRow.holds Tryd.pinned (OpenSpec.upto tariffWitnessesSpec)

/-- 'cocketlaw02.TariffCanonical', WHERE WHAT IT READS IS OF BULK AT MOST 1048576: true; the input reads as it did. -/
def tariffCanonicalUptoRow : OpenClaim := { program := "ytnfnkllhjaemnaadoor", sum := "537da42b616c54d10d75253d2c28bbc548dc9a0f3811ce382721415e2da29734", func := "cocket/cocketlaw02.TariffCanonical", spec := "tariffCanonical", inPlace := ["internal/abi.NoEscape"], unfollowed := true, recurses := true, named := ["internal/strconv.uint64pow10", "math/bits.deBruijn32tab", "math/bits.deBruijn64tab"], plainKeys := false, apart := false, laid := [("math/bits.deBruijn32tab", laid_math_bits_deBruijn32tab), ("math/bits.deBruijn64tab", laid_math_bits_deBruijn64tab), ("internal/strconv.uint64pow10", laid_internal_strconv_uint64pow10)], narrowed := true }
def TariffCanonicalUptoSaid : Prop := tariffCanonicalUptoRow.holds Tryd.pinned (OpenSpec.upto tariffCanonicalSpec)

end Rows
end Go.Proofs.YtnfnkllhjaemnaaDoor
