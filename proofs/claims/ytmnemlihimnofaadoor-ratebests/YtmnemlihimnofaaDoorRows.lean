/-
  NARROWER THAN 'FOR EVERY INPUT', by the rows' own cells (each row's printed sentence says how): RateBests: laid · RatePrices: laid · RateRounds: laid · RateRenumbered: laid · RateSpreads: laid · RateNeedless: laid · RateSpares: laid · RateChanges: laid · RateLeast: laid · RateTriangles: laid · RateTurned: laid · RateRounding: laid · RateChecks: laid · RateNever: laid.
  DERIVED. THE GIVEN ROWS OF THIS SEAT. 14 by the template 'for every input the law returns true; each argument reads behind the call as it read before'; 0 by the template 'total and deterministic' (their statements: YtmnemlihimnofaaDoorTotals.lean).
  GIVEN WITH THE SEED: the statements are not yours to turn. If you find one false, say at which input.
  Laid BY PROGRAM, IN A SANDBOX (cutbox-rows.mjs): the forced cells as the released guide's own fill.sh prints them over the translation 06eff09fd7f7ed18… (all of the seat's roots in one cut). By AI agents, Wed Nov 11 2026. No macro, syntax, notation, axiom, sorry.
-/
import Derived.Test.YtmnemlihimnofaaDoorChecked
import GoSem.Claim
import GoSem.ClaimJoined
import GoSem.ClaimMapViews
import Derived.JoinedTies
import Derived.KernelRfl
namespace Go.Proofs.YtmnemlihimnofaaDoor
/- THE CELL 'sum', in the pinned program and in every row, IS THE sha256 OF THE DUMP (.gsa) THAT YtmnemlihimnofaaDoorProg.lean LOADS. Nothing in Lean hashes anything: it is a label: what it is worth is what the hold of that sum in a sandbox is worth. -/
noncomputable def Tryd.pinned : Pinned := { name := "ytmnemlihimnofaadoor", sum := "06eff09fd7f7ed18c0855db7c691695cf1af4650cb5c294a8b345353545c20c2", checked := Tryd.checked }
namespace Rows
def none {H : Type} : Left H := { results := [], args := [] }

/- WHAT THE LISTED PACKAGE-LEVEL VARIABLES READ AS WHEN THE CALL BEGINS. Each datum BY PROGRAM (the guide's laid-datum.mjs) off the statement by which the dump's own 'gosem.cut.vars' lays the variable. In a bare row this is a premise. The card (YtmnemlihimnofaaDoorCards.lean) ties it to the program's text. -/
def laid_cocket_rate_one {H : Type} : DataW H := .agg [.lit (.int .i64 1), .lit (.int .i64 1)]

/-- 'cocketlaw01.RateBests': WHATEVER THE INPUT: true; the input reads as it did. -/
def rateBestsSpec : ChangeSpec := { name := "rateBests", fn := fun _ => fun
  | [d1, d2, d3, d4] => { results := [.lit (.bool true)], args := [d1, d2, d3, d4] }
  | _ => none }
def rateBestsRow : OpenClaim := { program := "ytmnemlihimnofaadoor", sum := "06eff09fd7f7ed18c0855db7c691695cf1af4650cb5c294a8b345353545c20c2", func := "cocket/cocketlaw01.RateBests", spec := "rateBests", unfollowed := true, recurses := true, named := ["cocket/rate.one"], apart := false, laid := [("cocket/rate.one", laid_cocket_rate_one)] }
def RateBestsSaid : Prop := rateBestsRow.holds Tryd.pinned (OpenSpec.ofChange rateBestsSpec)

/-- ITS FALSE NEIGHBOUR: 'it returns false'. Refute it at one input. -/
def rateBestsWrong : ChangeSpec := { name := "rateBests", fn := fun _ => fun
  | [d1, d2, d3, d4] => { results := [.lit (.bool false)], args := [d1, d2, d3, d4] }
  | _ => none }
def RateBestsWrongFalsely : Prop := rateBestsRow.holds Tryd.pinned (OpenSpec.ofChange rateBestsWrong)

/-- 'cocketlaw01.RatePrices': WHATEVER THE INPUT: true; the input reads as it did. -/
def ratePricesSpec : ChangeSpec := { name := "ratePrices", fn := fun _ => fun
  | [d1, d2] => { results := [.lit (.bool true)], args := [d1, d2] }
  | _ => none }
def ratePricesRow : OpenClaim := { program := "ytmnemlihimnofaadoor", sum := "06eff09fd7f7ed18c0855db7c691695cf1af4650cb5c294a8b345353545c20c2", func := "cocket/cocketlaw01.RatePrices", spec := "ratePrices", unfollowed := true, recurses := true, named := ["cocket/rate.one"], apart := false, laid := [("cocket/rate.one", laid_cocket_rate_one)] }
def RatePricesSaid : Prop := ratePricesRow.holds Tryd.pinned (OpenSpec.ofChange ratePricesSpec)

/-- ITS FALSE NEIGHBOUR: 'it returns false'. Refute it at one input. -/
def ratePricesWrong : ChangeSpec := { name := "ratePrices", fn := fun _ => fun
  | [d1, d2] => { results := [.lit (.bool false)], args := [d1, d2] }
  | _ => none }
def RatePricesWrongFalsely : Prop := ratePricesRow.holds Tryd.pinned (OpenSpec.ofChange ratePricesWrong)

/-- 'cocketlaw01.RateRounds': WHATEVER THE INPUT: true; the input reads as it did. -/
def rateRoundsSpec : ChangeSpec := { name := "rateRounds", fn := fun _ => fun
  | [d1, d2] => { results := [.lit (.bool true)], args := [d1, d2] }
  | _ => none }
def rateRoundsRow : OpenClaim := { program := "ytmnemlihimnofaadoor", sum := "06eff09fd7f7ed18c0855db7c691695cf1af4650cb5c294a8b345353545c20c2", func := "cocket/cocketlaw01.RateRounds", spec := "rateRounds", unfollowed := true, recurses := true, named := ["cocket/rate.one"], apart := false, laid := [("cocket/rate.one", laid_cocket_rate_one)] }
def RateRoundsSaid : Prop := rateRoundsRow.holds Tryd.pinned (OpenSpec.ofChange rateRoundsSpec)

/-- ITS FALSE NEIGHBOUR: 'it returns false'. Refute it at one input. -/
def rateRoundsWrong : ChangeSpec := { name := "rateRounds", fn := fun _ => fun
  | [d1, d2] => { results := [.lit (.bool false)], args := [d1, d2] }
  | _ => none }
def RateRoundsWrongFalsely : Prop := rateRoundsRow.holds Tryd.pinned (OpenSpec.ofChange rateRoundsWrong)

/-- 'cocketlaw01.RateRenumbered': WHATEVER THE INPUT: true; the input reads as it did. -/
def rateRenumberedSpec : ChangeSpec := { name := "rateRenumbered", fn := fun _ => fun
  | [d1, d2, d3, d4, d5] => { results := [.lit (.bool true)], args := [d1, d2, d3, d4, d5] }
  | _ => none }
def rateRenumberedRow : OpenClaim := { program := "ytmnemlihimnofaadoor", sum := "06eff09fd7f7ed18c0855db7c691695cf1af4650cb5c294a8b345353545c20c2", func := "cocket/cocketlaw01.RateRenumbered", spec := "rateRenumbered", unfollowed := true, recurses := true, named := ["cocket/rate.one"], apart := false, laid := [("cocket/rate.one", laid_cocket_rate_one)] }
def RateRenumberedSaid : Prop := rateRenumberedRow.holds Tryd.pinned (OpenSpec.ofChange rateRenumberedSpec)

/-- ITS FALSE NEIGHBOUR: 'it returns false'. Refute it at one input. -/
def rateRenumberedWrong : ChangeSpec := { name := "rateRenumbered", fn := fun _ => fun
  | [d1, d2, d3, d4, d5] => { results := [.lit (.bool false)], args := [d1, d2, d3, d4, d5] }
  | _ => none }
def RateRenumberedWrongFalsely : Prop := rateRenumberedRow.holds Tryd.pinned (OpenSpec.ofChange rateRenumberedWrong)

/-- 'cocketlaw01.RateSpreads': WHATEVER THE INPUT: true; the input reads as it did. -/
def rateSpreadsSpec : ChangeSpec := { name := "rateSpreads", fn := fun _ => fun
  | [d1, d2, d3, d4] => { results := [.lit (.bool true)], args := [d1, d2, d3, d4] }
  | _ => none }
def rateSpreadsRow : OpenClaim := { program := "ytmnemlihimnofaadoor", sum := "06eff09fd7f7ed18c0855db7c691695cf1af4650cb5c294a8b345353545c20c2", func := "cocket/cocketlaw01.RateSpreads", spec := "rateSpreads", unfollowed := true, recurses := true, named := ["cocket/rate.one"], apart := false, laid := [("cocket/rate.one", laid_cocket_rate_one)] }
def RateSpreadsSaid : Prop := rateSpreadsRow.holds Tryd.pinned (OpenSpec.ofChange rateSpreadsSpec)

/-- ITS FALSE NEIGHBOUR: 'it returns false'. Refute it at one input. -/
def rateSpreadsWrong : ChangeSpec := { name := "rateSpreads", fn := fun _ => fun
  | [d1, d2, d3, d4] => { results := [.lit (.bool false)], args := [d1, d2, d3, d4] }
  | _ => none }
def RateSpreadsWrongFalsely : Prop := rateSpreadsRow.holds Tryd.pinned (OpenSpec.ofChange rateSpreadsWrong)

/-- 'cocketlaw01.RateNeedless': WHATEVER THE INPUT: true; the input reads as it did. -/
def rateNeedlessSpec : ChangeSpec := { name := "rateNeedless", fn := fun _ => fun
  | [d1, d2] => { results := [.lit (.bool true)], args := [d1, d2] }
  | _ => none }
def rateNeedlessRow : OpenClaim := { program := "ytmnemlihimnofaadoor", sum := "06eff09fd7f7ed18c0855db7c691695cf1af4650cb5c294a8b345353545c20c2", func := "cocket/cocketlaw01.RateNeedless", spec := "rateNeedless", unfollowed := true, recurses := true, named := ["cocket/rate.one"], apart := false, laid := [("cocket/rate.one", laid_cocket_rate_one)] }
def RateNeedlessSaid : Prop := rateNeedlessRow.holds Tryd.pinned (OpenSpec.ofChange rateNeedlessSpec)

/-- ITS FALSE NEIGHBOUR: 'it returns false'. Refute it at one input. -/
def rateNeedlessWrong : ChangeSpec := { name := "rateNeedless", fn := fun _ => fun
  | [d1, d2] => { results := [.lit (.bool false)], args := [d1, d2] }
  | _ => none }
def RateNeedlessWrongFalsely : Prop := rateNeedlessRow.holds Tryd.pinned (OpenSpec.ofChange rateNeedlessWrong)

/-- 'cocketlaw01.RateSpares': WHATEVER THE INPUT: true; the input reads as it did. -/
def rateSparesSpec : ChangeSpec := { name := "rateSpares", fn := fun _ => fun
  | [d1, d2] => { results := [.lit (.bool true)], args := [d1, d2] }
  | _ => none }
def rateSparesRow : OpenClaim := { program := "ytmnemlihimnofaadoor", sum := "06eff09fd7f7ed18c0855db7c691695cf1af4650cb5c294a8b345353545c20c2", func := "cocket/cocketlaw01.RateSpares", spec := "rateSpares", unfollowed := true, recurses := true, named := ["cocket/rate.one"], apart := false, laid := [("cocket/rate.one", laid_cocket_rate_one)] }
def RateSparesSaid : Prop := rateSparesRow.holds Tryd.pinned (OpenSpec.ofChange rateSparesSpec)

/-- ITS FALSE NEIGHBOUR: 'it returns false'. Refute it at one input. -/
def rateSparesWrong : ChangeSpec := { name := "rateSpares", fn := fun _ => fun
  | [d1, d2] => { results := [.lit (.bool false)], args := [d1, d2] }
  | _ => none }
def RateSparesWrongFalsely : Prop := rateSparesRow.holds Tryd.pinned (OpenSpec.ofChange rateSparesWrong)

/-- 'cocketlaw01.RateChanges': WHATEVER THE INPUT: true; the input reads as it did. -/
def rateChangesSpec : ChangeSpec := { name := "rateChanges", fn := fun _ => fun
  | [d1, d2, d3, d4] => { results := [.lit (.bool true)], args := [d1, d2, d3, d4] }
  | _ => none }
def rateChangesRow : OpenClaim := { program := "ytmnemlihimnofaadoor", sum := "06eff09fd7f7ed18c0855db7c691695cf1af4650cb5c294a8b345353545c20c2", func := "cocket/cocketlaw01.RateChanges", spec := "rateChanges", unfollowed := true, recurses := true, named := ["cocket/rate.one"], apart := false, laid := [("cocket/rate.one", laid_cocket_rate_one)] }
def RateChangesSaid : Prop := rateChangesRow.holds Tryd.pinned (OpenSpec.ofChange rateChangesSpec)

/-- ITS FALSE NEIGHBOUR: 'it returns false'. Refute it at one input. -/
def rateChangesWrong : ChangeSpec := { name := "rateChanges", fn := fun _ => fun
  | [d1, d2, d3, d4] => { results := [.lit (.bool false)], args := [d1, d2, d3, d4] }
  | _ => none }
def RateChangesWrongFalsely : Prop := rateChangesRow.holds Tryd.pinned (OpenSpec.ofChange rateChangesWrong)

/-- 'cocketlaw01.RateLeast': WHATEVER THE INPUT: true; the input reads as it did. -/
def rateLeastSpec : ChangeSpec := { name := "rateLeast", fn := fun _ => fun
  | [d1, d2, d3] => { results := [.lit (.bool true)], args := [d1, d2, d3] }
  | _ => none }
def rateLeastRow : OpenClaim := { program := "ytmnemlihimnofaadoor", sum := "06eff09fd7f7ed18c0855db7c691695cf1af4650cb5c294a8b345353545c20c2", func := "cocket/cocketlaw01.RateLeast", spec := "rateLeast", unfollowed := true, recurses := true, named := ["cocket/rate.one"], apart := false, laid := [("cocket/rate.one", laid_cocket_rate_one)] }
def RateLeastSaid : Prop := rateLeastRow.holds Tryd.pinned (OpenSpec.ofChange rateLeastSpec)

/-- ITS FALSE NEIGHBOUR: 'it returns false'. Refute it at one input. -/
def rateLeastWrong : ChangeSpec := { name := "rateLeast", fn := fun _ => fun
  | [d1, d2, d3] => { results := [.lit (.bool false)], args := [d1, d2, d3] }
  | _ => none }
def RateLeastWrongFalsely : Prop := rateLeastRow.holds Tryd.pinned (OpenSpec.ofChange rateLeastWrong)

/-- 'cocketlaw01.RateTriangles': WHATEVER THE INPUT: true; the input reads as it did. -/
def rateTrianglesSpec : ChangeSpec := { name := "rateTriangles", fn := fun _ => fun
  | [d1, d2, d3, d4, d5, d6] => { results := [.lit (.bool true)], args := [d1, d2, d3, d4, d5, d6] }
  | _ => none }
def rateTrianglesRow : OpenClaim := { program := "ytmnemlihimnofaadoor", sum := "06eff09fd7f7ed18c0855db7c691695cf1af4650cb5c294a8b345353545c20c2", func := "cocket/cocketlaw01.RateTriangles", spec := "rateTriangles", unfollowed := true, recurses := true, named := ["cocket/rate.one"], apart := false, laid := [("cocket/rate.one", laid_cocket_rate_one)] }
def RateTrianglesSaid : Prop := rateTrianglesRow.holds Tryd.pinned (OpenSpec.ofChange rateTrianglesSpec)

/-- ITS FALSE NEIGHBOUR: 'it returns false'. Refute it at one input. -/
def rateTrianglesWrong : ChangeSpec := { name := "rateTriangles", fn := fun _ => fun
  | [d1, d2, d3, d4, d5, d6] => { results := [.lit (.bool false)], args := [d1, d2, d3, d4, d5, d6] }
  | _ => none }
def RateTrianglesWrongFalsely : Prop := rateTrianglesRow.holds Tryd.pinned (OpenSpec.ofChange rateTrianglesWrong)

/-- 'cocketlaw01.RateTurned': WHATEVER THE INPUT: true; the input reads as it did. -/
def rateTurnedSpec : ChangeSpec := { name := "rateTurned", fn := fun _ => fun
  | [d1, d2] => { results := [.lit (.bool true)], args := [d1, d2] }
  | _ => none }
def rateTurnedRow : OpenClaim := { program := "ytmnemlihimnofaadoor", sum := "06eff09fd7f7ed18c0855db7c691695cf1af4650cb5c294a8b345353545c20c2", func := "cocket/cocketlaw01.RateTurned", spec := "rateTurned", unfollowed := true, recurses := true, named := ["cocket/rate.one"], apart := false, laid := [("cocket/rate.one", laid_cocket_rate_one)] }
def RateTurnedSaid : Prop := rateTurnedRow.holds Tryd.pinned (OpenSpec.ofChange rateTurnedSpec)

/-- ITS FALSE NEIGHBOUR: 'it returns false'. Refute it at one input. -/
def rateTurnedWrong : ChangeSpec := { name := "rateTurned", fn := fun _ => fun
  | [d1, d2] => { results := [.lit (.bool false)], args := [d1, d2] }
  | _ => none }
def RateTurnedWrongFalsely : Prop := rateTurnedRow.holds Tryd.pinned (OpenSpec.ofChange rateTurnedWrong)

/-- 'cocketlaw01.RateRounding': WHATEVER THE INPUT: true; the input reads as it did. -/
def rateRoundingSpec : ChangeSpec := { name := "rateRounding", fn := fun _ => fun
  | [d1, d2, d3, d4] => { results := [.lit (.bool true)], args := [d1, d2, d3, d4] }
  | _ => none }
def rateRoundingRow : OpenClaim := { program := "ytmnemlihimnofaadoor", sum := "06eff09fd7f7ed18c0855db7c691695cf1af4650cb5c294a8b345353545c20c2", func := "cocket/cocketlaw01.RateRounding", spec := "rateRounding", unfollowed := true, recurses := true, named := ["cocket/rate.one"], apart := false, laid := [("cocket/rate.one", laid_cocket_rate_one)] }
def RateRoundingSaid : Prop := rateRoundingRow.holds Tryd.pinned (OpenSpec.ofChange rateRoundingSpec)

/-- ITS FALSE NEIGHBOUR: 'it returns false'. Refute it at one input. -/
def rateRoundingWrong : ChangeSpec := { name := "rateRounding", fn := fun _ => fun
  | [d1, d2, d3, d4] => { results := [.lit (.bool false)], args := [d1, d2, d3, d4] }
  | _ => none }
def RateRoundingWrongFalsely : Prop := rateRoundingRow.holds Tryd.pinned (OpenSpec.ofChange rateRoundingWrong)

/-- 'cocketlaw01.RateChecks': WHATEVER THE INPUT: true; the input reads as it did. -/
def rateChecksSpec : ChangeSpec := { name := "rateChecks", fn := fun _ => fun
  | [d1, d2, d3, d4] => { results := [.lit (.bool true)], args := [d1, d2, d3, d4] }
  | _ => none }
def rateChecksRow : OpenClaim := { program := "ytmnemlihimnofaadoor", sum := "06eff09fd7f7ed18c0855db7c691695cf1af4650cb5c294a8b345353545c20c2", func := "cocket/cocketlaw01.RateChecks", spec := "rateChecks", unfollowed := true, recurses := true, named := ["cocket/rate.one"], apart := false, laid := [("cocket/rate.one", laid_cocket_rate_one)] }
def RateChecksSaid : Prop := rateChecksRow.holds Tryd.pinned (OpenSpec.ofChange rateChecksSpec)

/-- ITS FALSE NEIGHBOUR: 'it returns false'. Refute it at one input. -/
def rateChecksWrong : ChangeSpec := { name := "rateChecks", fn := fun _ => fun
  | [d1, d2, d3, d4] => { results := [.lit (.bool false)], args := [d1, d2, d3, d4] }
  | _ => none }
def RateChecksWrongFalsely : Prop := rateChecksRow.holds Tryd.pinned (OpenSpec.ofChange rateChecksWrong)

/-- 'cocketlaw01.RateNever': WHATEVER THE INPUT: true; the input reads as it did. -/
def rateNeverSpec : ChangeSpec := { name := "rateNever", fn := fun _ => fun
  | [d1, d2, d3, d4] => { results := [.lit (.bool true)], args := [d1, d2, d3, d4] }
  | _ => none }
def rateNeverRow : OpenClaim := { program := "ytmnemlihimnofaadoor", sum := "06eff09fd7f7ed18c0855db7c691695cf1af4650cb5c294a8b345353545c20c2", func := "cocket/cocketlaw01.RateNever", spec := "rateNever", unfollowed := true, recurses := true, named := ["cocket/rate.one"], apart := false, laid := [("cocket/rate.one", laid_cocket_rate_one)] }
def RateNeverSaid : Prop := rateNeverRow.holds Tryd.pinned (OpenSpec.ofChange rateNeverSpec)

/-- ITS FALSE NEIGHBOUR: 'it returns false'. Refute it at one input. -/
def rateNeverWrong : ChangeSpec := { name := "rateNever", fn := fun _ => fun
  | [d1, d2, d3, d4] => { results := [.lit (.bool false)], args := [d1, d2, d3, d4] }
  | _ => none }
def RateNeverWrongFalsely : Prop := rateNeverRow.holds Tryd.pinned (OpenSpec.ofChange rateNeverWrong)

/- THE SECOND FORM. 'bulk': how many values and letters a reading holds, each counted each time it is reached (what is shared counts as often as it is met; a slice's spare places count too). A statement '..UptoSaid' is the law's where the arguments, and the package variables that the reading takes, are together of bulk at most 1048576: NARROWER than '..Said'. Prove '..Said' where nothing that the law and all that it calls make is longer than what came in: it says more and counts as full. Else prove '..UptoSaid'. A law counts once. -/
mutual
def uptoBulk {H : Type} : DataW H → Nat
  | .lit (.string bytes) => bytes.length + 1
  | .lit _ => 1
  | .nil => 1
  | .ptr d => uptoBulk d + 1
  | .slice elems spare => uptoBulkAll elems + uptoBulkAll spare + 1
  | .agg parts => uptoBulkAll parts + 1
  | .iface _ d => uptoBulk d + 1
  | .map entries => uptoBulkEntries entries + 1
  | .held _ => 1
def uptoBulkAll {H : Type} : List (DataW H) → Nat
  | [] => 0
  | d :: r => uptoBulk d + uptoBulkAll r
def uptoBulkEntries {H : Type} : List (Lit × DataW H) → Nat
  | [] => 0
  | x :: r => uptoBulkEntry x + uptoBulkEntries r
def uptoBulkEntry {H : Type} : Lit × DataW H → Nat
  | (.string bytes, d) => bytes.length + uptoBulk d + 1
  | (_, d) => uptoBulk d + 1
 end
def uptoSmall : (H : Type) → List (DataW H) → Bool := fun _ ds => decide (uptoBulkAll ds ≤ 1048576)
def OpenSpec.upto (s : _root_.Go.ChangeSpec) : _root_.Go.OpenSpec := { _root_.Go.OpenSpec.ofChange s with cond := some uptoSmall }

/-- 'cocketlaw01.RateBests', WHERE WHAT IT READS IS OF BULK AT MOST 1048576: true; the input reads as it did. -/
def rateBestsUptoRow : OpenClaim := { program := "ytmnemlihimnofaadoor", sum := "06eff09fd7f7ed18c0855db7c691695cf1af4650cb5c294a8b345353545c20c2", func := "cocket/cocketlaw01.RateBests", spec := "rateBests", unfollowed := true, recurses := true, named := ["cocket/rate.one"], apart := false, laid := [("cocket/rate.one", laid_cocket_rate_one)], narrowed := true }
def RateBestsUptoSaid : Prop := rateBestsUptoRow.holds Tryd.pinned (OpenSpec.upto rateBestsSpec)

/-- 'cocketlaw01.RatePrices', WHERE WHAT IT READS IS OF BULK AT MOST 1048576: true; the input reads as it did. -/
def ratePricesUptoRow : OpenClaim := { program := "ytmnemlihimnofaadoor", sum := "06eff09fd7f7ed18c0855db7c691695cf1af4650cb5c294a8b345353545c20c2", func := "cocket/cocketlaw01.RatePrices", spec := "ratePrices", unfollowed := true, recurses := true, named := ["cocket/rate.one"], apart := false, laid := [("cocket/rate.one", laid_cocket_rate_one)], narrowed := true }
def RatePricesUptoSaid : Prop := ratePricesUptoRow.holds Tryd.pinned (OpenSpec.upto ratePricesSpec)

/-- 'cocketlaw01.RateRounds', WHERE WHAT IT READS IS OF BULK AT MOST 1048576: true; the input reads as it did. -/
def rateRoundsUptoRow : OpenClaim := { program := "ytmnemlihimnofaadoor", sum := "06eff09fd7f7ed18c0855db7c691695cf1af4650cb5c294a8b345353545c20c2", func := "cocket/cocketlaw01.RateRounds", spec := "rateRounds", unfollowed := true, recurses := true, named := ["cocket/rate.one"], apart := false, laid := [("cocket/rate.one", laid_cocket_rate_one)], narrowed := true }
def RateRoundsUptoSaid : Prop := rateRoundsUptoRow.holds Tryd.pinned (OpenSpec.upto rateRoundsSpec)

/-- 'cocketlaw01.RateRenumbered', WHERE WHAT IT READS IS OF BULK AT MOST 1048576: true; the input reads as it did. -/
def rateRenumberedUptoRow : OpenClaim := { program := "ytmnemlihimnofaadoor", sum := "06eff09fd7f7ed18c0855db7c691695cf1af4650cb5c294a8b345353545c20c2", func := "cocket/cocketlaw01.RateRenumbered", spec := "rateRenumbered", unfollowed := true, recurses := true, named := ["cocket/rate.one"], apart := false, laid := [("cocket/rate.one", laid_cocket_rate_one)], narrowed := true }
def RateRenumberedUptoSaid : Prop := rateRenumberedUptoRow.holds Tryd.pinned (OpenSpec.upto rateRenumberedSpec)

/-- 'cocketlaw01.RateSpreads', WHERE WHAT IT READS IS OF BULK AT MOST 1048576: true; the input reads as it did. -/
def rateSpreadsUptoRow : OpenClaim := { program := "ytmnemlihimnofaadoor", sum := "06eff09fd7f7ed18c0855db7c691695cf1af4650cb5c294a8b345353545c20c2", func := "cocket/cocketlaw01.RateSpreads", spec := "rateSpreads", unfollowed := true, recurses := true, named := ["cocket/rate.one"], apart := false, laid := [("cocket/rate.one", laid_cocket_rate_one)], narrowed := true }
def RateSpreadsUptoSaid : Prop := rateSpreadsUptoRow.holds Tryd.pinned (OpenSpec.upto rateSpreadsSpec)

/-- 'cocketlaw01.RateNeedless', WHERE WHAT IT READS IS OF BULK AT MOST 1048576: true; the input reads as it did. -/
def rateNeedlessUptoRow : OpenClaim := { program := "ytmnemlihimnofaadoor", sum := "06eff09fd7f7ed18c0855db7c691695cf1af4650cb5c294a8b345353545c20c2", func := "cocket/cocketlaw01.RateNeedless", spec := "rateNeedless", unfollowed := true, recurses := true, named := ["cocket/rate.one"], apart := false, laid := [("cocket/rate.one", laid_cocket_rate_one)], narrowed := true }
def RateNeedlessUptoSaid : Prop := rateNeedlessUptoRow.holds Tryd.pinned (OpenSpec.upto rateNeedlessSpec)

/-- 'cocketlaw01.RateSpares', WHERE WHAT IT READS IS OF BULK AT MOST 1048576: true; the input reads as it did. -/
def rateSparesUptoRow : OpenClaim := { program := "ytmnemlihimnofaadoor", sum := "06eff09fd7f7ed18c0855db7c691695cf1af4650cb5c294a8b345353545c20c2", func := "cocket/cocketlaw01.RateSpares", spec := "rateSpares", unfollowed := true, recurses := true, named := ["cocket/rate.one"], apart := false, laid := [("cocket/rate.one", laid_cocket_rate_one)], narrowed := true }
def RateSparesUptoSaid : Prop := rateSparesUptoRow.holds Tryd.pinned (OpenSpec.upto rateSparesSpec)

/-- 'cocketlaw01.RateChanges', WHERE WHAT IT READS IS OF BULK AT MOST 1048576: true; the input reads as it did. -/
def rateChangesUptoRow : OpenClaim := { program := "ytmnemlihimnofaadoor", sum := "06eff09fd7f7ed18c0855db7c691695cf1af4650cb5c294a8b345353545c20c2", func := "cocket/cocketlaw01.RateChanges", spec := "rateChanges", unfollowed := true, recurses := true, named := ["cocket/rate.one"], apart := false, laid := [("cocket/rate.one", laid_cocket_rate_one)], narrowed := true }
def RateChangesUptoSaid : Prop := rateChangesUptoRow.holds Tryd.pinned (OpenSpec.upto rateChangesSpec)

/-- 'cocketlaw01.RateLeast', WHERE WHAT IT READS IS OF BULK AT MOST 1048576: true; the input reads as it did. -/
def rateLeastUptoRow : OpenClaim := { program := "ytmnemlihimnofaadoor", sum := "06eff09fd7f7ed18c0855db7c691695cf1af4650cb5c294a8b345353545c20c2", func := "cocket/cocketlaw01.RateLeast", spec := "rateLeast", unfollowed := true, recurses := true, named := ["cocket/rate.one"], apart := false, laid := [("cocket/rate.one", laid_cocket_rate_one)], narrowed := true }
def RateLeastUptoSaid : Prop := rateLeastUptoRow.holds Tryd.pinned (OpenSpec.upto rateLeastSpec)

/-- 'cocketlaw01.RateTriangles', WHERE WHAT IT READS IS OF BULK AT MOST 1048576: true; the input reads as it did. -/
def rateTrianglesUptoRow : OpenClaim := { program := "ytmnemlihimnofaadoor", sum := "06eff09fd7f7ed18c0855db7c691695cf1af4650cb5c294a8b345353545c20c2", func := "cocket/cocketlaw01.RateTriangles", spec := "rateTriangles", unfollowed := true, recurses := true, named := ["cocket/rate.one"], apart := false, laid := [("cocket/rate.one", laid_cocket_rate_one)], narrowed := true }
def RateTrianglesUptoSaid : Prop := rateTrianglesUptoRow.holds Tryd.pinned (OpenSpec.upto rateTrianglesSpec)

/-- 'cocketlaw01.RateTurned', WHERE WHAT IT READS IS OF BULK AT MOST 1048576: true; the input reads as it did. -/
def rateTurnedUptoRow : OpenClaim := { program := "ytmnemlihimnofaadoor", sum := "06eff09fd7f7ed18c0855db7c691695cf1af4650cb5c294a8b345353545c20c2", func := "cocket/cocketlaw01.RateTurned", spec := "rateTurned", unfollowed := true, recurses := true, named := ["cocket/rate.one"], apart := false, laid := [("cocket/rate.one", laid_cocket_rate_one)], narrowed := true }
def RateTurnedUptoSaid : Prop := rateTurnedUptoRow.holds Tryd.pinned (OpenSpec.upto rateTurnedSpec)

/-- 'cocketlaw01.RateRounding', WHERE WHAT IT READS IS OF BULK AT MOST 1048576: true; the input reads as it did. -/
def rateRoundingUptoRow : OpenClaim := { program := "ytmnemlihimnofaadoor", sum := "06eff09fd7f7ed18c0855db7c691695cf1af4650cb5c294a8b345353545c20c2", func := "cocket/cocketlaw01.RateRounding", spec := "rateRounding", unfollowed := true, recurses := true, named := ["cocket/rate.one"], apart := false, laid := [("cocket/rate.one", laid_cocket_rate_one)], narrowed := true }
def RateRoundingUptoSaid : Prop := rateRoundingUptoRow.holds Tryd.pinned (OpenSpec.upto rateRoundingSpec)

/-- 'cocketlaw01.RateChecks', WHERE WHAT IT READS IS OF BULK AT MOST 1048576: true; the input reads as it did. -/
def rateChecksUptoRow : OpenClaim := { program := "ytmnemlihimnofaadoor", sum := "06eff09fd7f7ed18c0855db7c691695cf1af4650cb5c294a8b345353545c20c2", func := "cocket/cocketlaw01.RateChecks", spec := "rateChecks", unfollowed := true, recurses := true, named := ["cocket/rate.one"], apart := false, laid := [("cocket/rate.one", laid_cocket_rate_one)], narrowed := true }
def RateChecksUptoSaid : Prop := rateChecksUptoRow.holds Tryd.pinned (OpenSpec.upto rateChecksSpec)

/-- 'cocketlaw01.RateNever', WHERE WHAT IT READS IS OF BULK AT MOST 1048576: true; the input reads as it did. -/
def rateNeverUptoRow : OpenClaim := { program := "ytmnemlihimnofaadoor", sum := "06eff09fd7f7ed18c0855db7c691695cf1af4650cb5c294a8b345353545c20c2", func := "cocket/cocketlaw01.RateNever", spec := "rateNever", unfollowed := true, recurses := true, named := ["cocket/rate.one"], apart := false, laid := [("cocket/rate.one", laid_cocket_rate_one)], narrowed := true }
def RateNeverUptoSaid : Prop := rateNeverUptoRow.holds Tryd.pinned (OpenSpec.upto rateNeverSpec)

end Rows
end Go.Proofs.YtmnemlihimnofaaDoor
