/-
  No cell of these rows narrows 'for every input' (looked for: loops, veiled, ifaces, maps, wideKeys, modest, calm, conditions, laid).
  DERIVED. THE GIVEN ROWS OF THIS SEAT. 12 by the template 'for every input the law returns true; each argument reads behind the call as it read before'; 0 by the template 'total and deterministic' (their statements: YtfdnbokgakjplaaTotals.lean).
  GIVEN WITH THE SEED: the statements are not yours to turn. If you find one false, say at which input.
  Laid BY PROGRAM, IN A SANDBOX (cutbox-rows.mjs): the forced cells as the released guide's own fill.sh prints them over the translation df3779eb899739b8… (all of the seat's roots in one cut). By AI agents, Wed Nov 11 2026. No macro, syntax, notation, axiom, sorry.
-/
import Derived.Test.YtfdnbokgakjplaaChecked
import GoSem.Claim
import GoSem.ClaimJoined
import GoSem.ClaimMapViews
import Derived.JoinedTies
import Derived.KernelRfl
namespace Go.Proofs.Ytfdnbokgakjplaa
/- THE CELL 'sum', in the pinned program and in every row, IS THE sha256 OF THE DUMP (.gsa) THAT YtfdnbokgakjplaaProg.lean LOADS. Nothing in Lean hashes anything: it is a label: what it is worth is what the hold of that sum in a sandbox is worth. -/
noncomputable def Try.pinned : Pinned := { name := "ytfdnbokgakjplaa", sum := "df3779eb899739b82314bf90ec894de223004748c4af74a24318145694797966", checked := Try.checked }
namespace Rows
def none {H : Type} : Left H := { results := [], args := [] }

/-- 'cocketlaw09.PostLimits': WHATEVER THE INPUT: true; the input reads as it did. -/
def postLimitsSpec : ChangeSpec := { name := "postLimits", fn := fun _ => fun
  | [d1, d2] => { results := [.lit (.bool true)], args := [d1, d2] }
  | _ => none }
def postLimitsRow : OpenClaim := { program := "ytfdnbokgakjplaa", sum := "df3779eb899739b82314bf90ec894de223004748c4af74a24318145694797966", func := "cocket/cocketlaw09.PostLimits", spec := "postLimits", plainKeys := false, apart := false }
def PostLimitsSaid : Prop := postLimitsRow.holds Try.pinned (OpenSpec.ofChange postLimitsSpec)

/-- ITS FALSE NEIGHBOUR: 'it returns false'. Refute it at one input. -/
def postLimitsWrong : ChangeSpec := { name := "postLimits", fn := fun _ => fun
  | [d1, d2] => { results := [.lit (.bool false)], args := [d1, d2] }
  | _ => none }
def PostLimitsWrongFalsely : Prop := postLimitsRow.holds Try.pinned (OpenSpec.ofChange postLimitsWrong)

/-- 'cocketlaw09.PostStamps': WHATEVER THE INPUT: true; the input reads as it did. -/
def postStampsSpec : ChangeSpec := { name := "postStamps", fn := fun _ => fun
  | [d1, d2] => { results := [.lit (.bool true)], args := [d1, d2] }
  | _ => none }
def postStampsRow : OpenClaim := { program := "ytfdnbokgakjplaa", sum := "df3779eb899739b82314bf90ec894de223004748c4af74a24318145694797966", func := "cocket/cocketlaw09.PostStamps", spec := "postStamps", plainKeys := false, apart := false }
def PostStampsSaid : Prop := postStampsRow.holds Try.pinned (OpenSpec.ofChange postStampsSpec)

/-- ITS FALSE NEIGHBOUR: 'it returns false'. Refute it at one input. -/
def postStampsWrong : ChangeSpec := { name := "postStamps", fn := fun _ => fun
  | [d1, d2] => { results := [.lit (.bool false)], args := [d1, d2] }
  | _ => none }
def PostStampsWrongFalsely : Prop := postStampsRow.holds Try.pinned (OpenSpec.ofChange postStampsWrong)

/-- 'cocketlaw09.PostPlays': WHATEVER THE INPUT: true; the input reads as it did. -/
def postPlaysSpec : ChangeSpec := { name := "postPlays", fn := fun _ => fun
  | [d1, d2] => { results := [.lit (.bool true)], args := [d1, d2] }
  | _ => none }
def postPlaysRow : OpenClaim := { program := "ytfdnbokgakjplaa", sum := "df3779eb899739b82314bf90ec894de223004748c4af74a24318145694797966", func := "cocket/cocketlaw09.PostPlays", spec := "postPlays", plainKeys := false, apart := false }
def PostPlaysSaid : Prop := postPlaysRow.holds Try.pinned (OpenSpec.ofChange postPlaysSpec)

/-- ITS FALSE NEIGHBOUR: 'it returns false'. Refute it at one input. -/
def postPlaysWrong : ChangeSpec := { name := "postPlays", fn := fun _ => fun
  | [d1, d2] => { results := [.lit (.bool false)], args := [d1, d2] }
  | _ => none }
def PostPlaysWrongFalsely : Prop := postPlaysRow.holds Try.pinned (OpenSpec.ofChange postPlaysWrong)

/-- 'cocketlaw09.PostGoes': WHATEVER THE INPUT: true; the input reads as it did. -/
def postGoesSpec : ChangeSpec := { name := "postGoes", fn := fun _ => fun
  | [d1, d2, d3, d4, d5] => { results := [.lit (.bool true)], args := [d1, d2, d3, d4, d5] }
  | _ => none }
def postGoesRow : OpenClaim := { program := "ytfdnbokgakjplaa", sum := "df3779eb899739b82314bf90ec894de223004748c4af74a24318145694797966", func := "cocket/cocketlaw09.PostGoes", spec := "postGoes", plainKeys := false, apart := false }
def PostGoesSaid : Prop := postGoesRow.holds Try.pinned (OpenSpec.ofChange postGoesSpec)

/-- ITS FALSE NEIGHBOUR: 'it returns false'. Refute it at one input. -/
def postGoesWrong : ChangeSpec := { name := "postGoes", fn := fun _ => fun
  | [d1, d2, d3, d4, d5] => { results := [.lit (.bool false)], args := [d1, d2, d3, d4, d5] }
  | _ => none }
def PostGoesWrongFalsely : Prop := postGoesRow.holds Try.pinned (OpenSpec.ofChange postGoesWrong)

/-- 'cocketlaw09.PostCopies': WHATEVER THE INPUT: true; the input reads as it did. -/
def postCopiesSpec : ChangeSpec := { name := "postCopies", fn := fun _ => fun
  | [d1, d2, d3, d4] => { results := [.lit (.bool true)], args := [d1, d2, d3, d4] }
  | _ => none }
def postCopiesRow : OpenClaim := { program := "ytfdnbokgakjplaa", sum := "df3779eb899739b82314bf90ec894de223004748c4af74a24318145694797966", func := "cocket/cocketlaw09.PostCopies", spec := "postCopies", plainKeys := false, apart := false }
def PostCopiesSaid : Prop := postCopiesRow.holds Try.pinned (OpenSpec.ofChange postCopiesSpec)

/-- ITS FALSE NEIGHBOUR: 'it returns false'. Refute it at one input. -/
def postCopiesWrong : ChangeSpec := { name := "postCopies", fn := fun _ => fun
  | [d1, d2, d3, d4] => { results := [.lit (.bool false)], args := [d1, d2, d3, d4] }
  | _ => none }
def PostCopiesWrongFalsely : Prop := postCopiesRow.holds Try.pinned (OpenSpec.ofChange postCopiesWrong)

/-- 'cocketlaw09.PostNobody': WHATEVER THE INPUT: true; the input reads as it did. -/
def postNobodySpec : ChangeSpec := { name := "postNobody", fn := fun _ => fun
  | [d1, d2] => { results := [.lit (.bool true)], args := [d1, d2] }
  | _ => none }
def postNobodyRow : OpenClaim := { program := "ytfdnbokgakjplaa", sum := "df3779eb899739b82314bf90ec894de223004748c4af74a24318145694797966", func := "cocket/cocketlaw09.PostNobody", spec := "postNobody", plainKeys := false, apart := false }
def PostNobodySaid : Prop := postNobodyRow.holds Try.pinned (OpenSpec.ofChange postNobodySpec)

/-- ITS FALSE NEIGHBOUR: 'it returns false'. Refute it at one input. -/
def postNobodyWrong : ChangeSpec := { name := "postNobody", fn := fun _ => fun
  | [d1, d2] => { results := [.lit (.bool false)], args := [d1, d2] }
  | _ => none }
def PostNobodyWrongFalsely : Prop := postNobodyRow.holds Try.pinned (OpenSpec.ofChange postNobodyWrong)

/-- 'cocketlaw09.PostFewer': WHATEVER THE INPUT: true; the input reads as it did. -/
def postFewerSpec : ChangeSpec := { name := "postFewer", fn := fun _ => fun
  | [d1, d2] => { results := [.lit (.bool true)], args := [d1, d2] }
  | _ => none }
def postFewerRow : OpenClaim := { program := "ytfdnbokgakjplaa", sum := "df3779eb899739b82314bf90ec894de223004748c4af74a24318145694797966", func := "cocket/cocketlaw09.PostFewer", spec := "postFewer", inPlace := ["(*sync.WaitGroup).Add", "internal/race.ReleaseMerge", "internal/race.Disable", "internal/race.Enable", "internal/synctest.IsInBubble", "internal/synctest.Associate[sync.WaitGroup]", "sync.fatal", "sync/atomic.OrUint64", "sync/atomic.AddUint64", "internal/race.Read", "sync/atomic.LoadUint64", "sync/atomic.StoreUint64", "internal/synctest.Disassociate[sync.WaitGroup]", "sync.runtime_Semrelease", "(*sync.WaitGroup).Done", "(*sync.WaitGroup).Wait", "internal/race.Acquire", "internal/synctest.IsAssociated[sync.WaitGroup]", "sync/atomic.CompareAndSwapUint64", "internal/race.Write", "sync.runtime_SemacquireWaitGroup"], unfollowed := true, recurses := true, plainKeys := false, leaving := true, apart := false }
def PostFewerSaid : Prop := postFewerRow.holds Try.pinned (OpenSpec.ofChange postFewerSpec)

/-- ITS FALSE NEIGHBOUR: 'it returns false'. Refute it at one input. -/
def postFewerWrong : ChangeSpec := { name := "postFewer", fn := fun _ => fun
  | [d1, d2] => { results := [.lit (.bool false)], args := [d1, d2] }
  | _ => none }
def PostFewerWrongFalsely : Prop := postFewerRow.holds Try.pinned (OpenSpec.ofChange postFewerWrong)

/-- 'cocketlaw09.PostAtomics': WHATEVER THE INPUT: true; the input reads as it did. -/
def postAtomicsSpec : ChangeSpec := { name := "postAtomics", fn := fun _ => fun
  | [d1, d2] => { results := [.lit (.bool true)], args := [d1, d2] }
  | _ => none }
def postAtomicsRow : OpenClaim := { program := "ytfdnbokgakjplaa", sum := "df3779eb899739b82314bf90ec894de223004748c4af74a24318145694797966", func := "cocket/cocketlaw09.PostAtomics", spec := "postAtomics", inPlace := ["(*sync.WaitGroup).Add", "internal/race.ReleaseMerge", "internal/race.Disable", "internal/race.Enable", "internal/synctest.IsInBubble", "internal/synctest.Associate[sync.WaitGroup]", "sync.fatal", "sync/atomic.OrUint64", "sync/atomic.AddUint64", "internal/race.Read", "sync/atomic.LoadUint64", "sync/atomic.StoreUint64", "internal/synctest.Disassociate[sync.WaitGroup]", "sync.runtime_Semrelease", "(*sync.WaitGroup).Done", "(*sync.WaitGroup).Wait", "internal/race.Acquire", "internal/synctest.IsAssociated[sync.WaitGroup]", "sync/atomic.CompareAndSwapUint64", "internal/race.Write", "sync.runtime_SemacquireWaitGroup"], unfollowed := true, recurses := true, plainKeys := false, leaving := true, apart := false }
def PostAtomicsSaid : Prop := postAtomicsRow.holds Try.pinned (OpenSpec.ofChange postAtomicsSpec)

/-- ITS FALSE NEIGHBOUR: 'it returns false'. Refute it at one input. -/
def postAtomicsWrong : ChangeSpec := { name := "postAtomics", fn := fun _ => fun
  | [d1, d2] => { results := [.lit (.bool false)], args := [d1, d2] }
  | _ => none }
def PostAtomicsWrongFalsely : Prop := postAtomicsRow.holds Try.pinned (OpenSpec.ofChange postAtomicsWrong)

/-- 'cocketlaw09.PostSequentials': WHATEVER THE INPUT: true; the input reads as it did. -/
def postSequentialsSpec : ChangeSpec := { name := "postSequentials", fn := fun _ => fun
  | [d] => { results := [.lit (.bool true)], args := [d] }
  | _ => none }
def postSequentialsRow : OpenClaim := { program := "ytfdnbokgakjplaa", sum := "df3779eb899739b82314bf90ec894de223004748c4af74a24318145694797966", func := "cocket/cocketlaw09.PostSequentials", spec := "postSequentials", inPlace := ["(*sync.WaitGroup).Add", "internal/race.ReleaseMerge", "internal/race.Disable", "internal/race.Enable", "internal/synctest.IsInBubble", "internal/synctest.Associate[sync.WaitGroup]", "sync.fatal", "sync/atomic.OrUint64", "sync/atomic.AddUint64", "internal/race.Read", "sync/atomic.LoadUint64", "sync/atomic.StoreUint64", "internal/synctest.Disassociate[sync.WaitGroup]", "sync.runtime_Semrelease", "(*sync.WaitGroup).Done", "(*sync.WaitGroup).Wait", "internal/race.Acquire", "internal/synctest.IsAssociated[sync.WaitGroup]", "sync/atomic.CompareAndSwapUint64", "internal/race.Write", "sync.runtime_SemacquireWaitGroup"], unfollowed := true, recurses := true, plainKeys := false, leaving := true, apart := false }
def PostSequentialsSaid : Prop := postSequentialsRow.holds Try.pinned (OpenSpec.ofChange postSequentialsSpec)

/-- ITS FALSE NEIGHBOUR: 'it returns false'. Refute it at one input. -/
def postSequentialsWrong : ChangeSpec := { name := "postSequentials", fn := fun _ => fun
  | [d] => { results := [.lit (.bool false)], args := [d] }
  | _ => none }
def PostSequentialsWrongFalsely : Prop := postSequentialsRow.holds Try.pinned (OpenSpec.ofChange postSequentialsWrong)

/-- 'cocketlaw09.PostSingle': WHATEVER THE INPUT: true; the input reads as it did. -/
def postSingleSpec : ChangeSpec := { name := "postSingle", fn := fun _ => fun
  | [d1, d2, d3] => { results := [.lit (.bool true)], args := [d1, d2, d3] }
  | _ => none }
def postSingleRow : OpenClaim := { program := "ytfdnbokgakjplaa", sum := "df3779eb899739b82314bf90ec894de223004748c4af74a24318145694797966", func := "cocket/cocketlaw09.PostSingle", spec := "postSingle", inPlace := ["(*sync.WaitGroup).Add", "internal/race.ReleaseMerge", "internal/race.Disable", "internal/race.Enable", "internal/synctest.IsInBubble", "internal/synctest.Associate[sync.WaitGroup]", "sync.fatal", "sync/atomic.OrUint64", "sync/atomic.AddUint64", "internal/race.Read", "sync/atomic.LoadUint64", "sync/atomic.StoreUint64", "internal/synctest.Disassociate[sync.WaitGroup]", "sync.runtime_Semrelease", "(*sync.WaitGroup).Done", "(*sync.WaitGroup).Wait", "internal/race.Acquire", "internal/synctest.IsAssociated[sync.WaitGroup]", "sync/atomic.CompareAndSwapUint64", "internal/race.Write", "sync.runtime_SemacquireWaitGroup"], unfollowed := true, recurses := true, plainKeys := false, leaving := true, apart := false }
def PostSingleSaid : Prop := postSingleRow.holds Try.pinned (OpenSpec.ofChange postSingleSpec)

/-- ITS FALSE NEIGHBOUR: 'it returns false'. Refute it at one input. -/
def postSingleWrong : ChangeSpec := { name := "postSingle", fn := fun _ => fun
  | [d1, d2, d3] => { results := [.lit (.bool false)], args := [d1, d2, d3] }
  | _ => none }
def PostSingleWrongFalsely : Prop := postSingleRow.holds Try.pinned (OpenSpec.ofChange postSingleWrong)

/-- 'cocketlaw09.PostHistories': WHATEVER THE INPUT: true; the input reads as it did. -/
def postHistoriesSpec : ChangeSpec := { name := "postHistories", fn := fun _ => fun
  | [d1, d2] => { results := [.lit (.bool true)], args := [d1, d2] }
  | _ => none }
def postHistoriesRow : OpenClaim := { program := "ytfdnbokgakjplaa", sum := "df3779eb899739b82314bf90ec894de223004748c4af74a24318145694797966", func := "cocket/cocketlaw09.PostHistories", spec := "postHistories", inPlace := ["(*sync.WaitGroup).Add", "internal/race.ReleaseMerge", "internal/race.Disable", "internal/race.Enable", "internal/synctest.IsInBubble", "internal/synctest.Associate[sync.WaitGroup]", "sync.fatal", "sync/atomic.OrUint64", "sync/atomic.AddUint64", "internal/race.Read", "sync/atomic.LoadUint64", "sync/atomic.StoreUint64", "internal/synctest.Disassociate[sync.WaitGroup]", "sync.runtime_Semrelease", "(*sync.WaitGroup).Done", "(*sync.WaitGroup).Wait", "internal/race.Acquire", "internal/synctest.IsAssociated[sync.WaitGroup]", "sync/atomic.CompareAndSwapUint64", "internal/race.Write", "sync.runtime_SemacquireWaitGroup"], unfollowed := true, recurses := true, plainKeys := false, leaving := true, apart := false }
def PostHistoriesSaid : Prop := postHistoriesRow.holds Try.pinned (OpenSpec.ofChange postHistoriesSpec)

/-- ITS FALSE NEIGHBOUR: 'it returns false'. Refute it at one input. -/
def postHistoriesWrong : ChangeSpec := { name := "postHistories", fn := fun _ => fun
  | [d1, d2] => { results := [.lit (.bool false)], args := [d1, d2] }
  | _ => none }
def PostHistoriesWrongFalsely : Prop := postHistoriesRow.holds Try.pinned (OpenSpec.ofChange postHistoriesWrong)

/-- 'cocketlaw09.PostExplained': WHATEVER THE INPUT: true; the input reads as it did. -/
def postExplainedSpec : ChangeSpec := { name := "postExplained", fn := fun _ => fun
  | [d1, d2] => { results := [.lit (.bool true)], args := [d1, d2] }
  | _ => none }
def postExplainedRow : OpenClaim := { program := "ytfdnbokgakjplaa", sum := "df3779eb899739b82314bf90ec894de223004748c4af74a24318145694797966", func := "cocket/cocketlaw09.PostExplained", spec := "postExplained", inPlace := ["(*sync.WaitGroup).Add", "internal/race.ReleaseMerge", "internal/race.Disable", "internal/race.Enable", "internal/synctest.IsInBubble", "internal/synctest.Associate[sync.WaitGroup]", "sync.fatal", "sync/atomic.OrUint64", "sync/atomic.AddUint64", "internal/race.Read", "sync/atomic.LoadUint64", "sync/atomic.StoreUint64", "internal/synctest.Disassociate[sync.WaitGroup]", "sync.runtime_Semrelease", "(*sync.WaitGroup).Done", "(*sync.WaitGroup).Wait", "internal/race.Acquire", "internal/synctest.IsAssociated[sync.WaitGroup]", "sync/atomic.CompareAndSwapUint64", "internal/race.Write", "sync.runtime_SemacquireWaitGroup"], unfollowed := true, recurses := true, plainKeys := false, leaving := true, apart := false }
def PostExplainedSaid : Prop := postExplainedRow.holds Try.pinned (OpenSpec.ofChange postExplainedSpec)

/-- ITS FALSE NEIGHBOUR: 'it returns false'. Refute it at one input. -/
def postExplainedWrong : ChangeSpec := { name := "postExplained", fn := fun _ => fun
  | [d1, d2] => { results := [.lit (.bool false)], args := [d1, d2] }
  | _ => none }
def PostExplainedWrongFalsely : Prop := postExplainedRow.holds Try.pinned (OpenSpec.ofChange postExplainedWrong)

/- THE SECOND FORM. 'bulk': how many values and letters a reading holds, each counted each time it is reached (what is shared counts as often as it is met; a slice's spare places count too). A statement '..UptoSaid' is the law's where the arguments, and the package variables that the reading takes, are together of bulk at most 1048576: NARROWER than '..Said'. Prove '..Said' where nothing that the law and all that it calls make is longer than what came in: it says more and counts as full. Else prove '..UptoSaid'. A law counts once. -/
mutual
def uptoBulk {H : Type} : DataW H → Nat
  | .lit (.string bytes) => bytes.length + 1
  | .lit _ => 1
  | .nil => 1
  | .ptr d => uptoBulk d + 1
  | .slice elems spare => uptoBulkAll elems + uptoBulkAll spare + 1
  | .agg parts => uptoBulkAll parts + 1
  | .iface _ d => uptoBulk d + 1
  | .map entries => uptoBulkEntries entries + 1
  | .held _ => 1
def uptoBulkAll {H : Type} : List (DataW H) → Nat
  | [] => 0
  | d :: r => uptoBulk d + uptoBulkAll r
def uptoBulkEntries {H : Type} : List (Lit × DataW H) → Nat
  | [] => 0
  | x :: r => uptoBulkEntry x + uptoBulkEntries r
def uptoBulkEntry {H : Type} : Lit × DataW H → Nat
  | (.string bytes, d) => bytes.length + uptoBulk d + 1
  | (_, d) => uptoBulk d + 1
 end
def uptoSmall : (H : Type) → List (DataW H) → Bool := fun _ ds => decide (uptoBulkAll ds ≤ 1048576)
def OpenSpec.upto (s : _root_.Go.ChangeSpec) : _root_.Go.OpenSpec := { _root_.Go.OpenSpec.ofChange s with cond := some uptoSmall }

/-- 'cocketlaw09.PostLimits', WHERE WHAT IT READS IS OF BULK AT MOST 1048576: true; the input reads as it did. -/
def postLimitsUptoRow : OpenClaim := { program := "ytfdnbokgakjplaa", sum := "df3779eb899739b82314bf90ec894de223004748c4af74a24318145694797966", func := "cocket/cocketlaw09.PostLimits", spec := "postLimits", plainKeys := false, apart := false, narrowed := true }
def PostLimitsUptoSaid : Prop := postLimitsUptoRow.holds Try.pinned (OpenSpec.upto postLimitsSpec)

/-- 'cocketlaw09.PostStamps', WHERE WHAT IT READS IS OF BULK AT MOST 1048576: true; the input reads as it did. -/
def postStampsUptoRow : OpenClaim := { program := "ytfdnbokgakjplaa", sum := "df3779eb899739b82314bf90ec894de223004748c4af74a24318145694797966", func := "cocket/cocketlaw09.PostStamps", spec := "postStamps", plainKeys := false, apart := false, narrowed := true }
def PostStampsUptoSaid : Prop := postStampsUptoRow.holds Try.pinned (OpenSpec.upto postStampsSpec)

/-- 'cocketlaw09.PostPlays', WHERE WHAT IT READS IS OF BULK AT MOST 1048576: true; the input reads as it did. -/
def postPlaysUptoRow : OpenClaim := { program := "ytfdnbokgakjplaa", sum := "df3779eb899739b82314bf90ec894de223004748c4af74a24318145694797966", func := "cocket/cocketlaw09.PostPlays", spec := "postPlays", plainKeys := false, apart := false, narrowed := true }
def PostPlaysUptoSaid : Prop := postPlaysUptoRow.holds Try.pinned (OpenSpec.upto postPlaysSpec)

/-- 'cocketlaw09.PostGoes', WHERE WHAT IT READS IS OF BULK AT MOST 1048576: true; the input reads as it did. -/
def postGoesUptoRow : OpenClaim := { program := "ytfdnbokgakjplaa", sum := "df3779eb899739b82314bf90ec894de223004748c4af74a24318145694797966", func := "cocket/cocketlaw09.PostGoes", spec := "postGoes", plainKeys := false, apart := false, narrowed := true }
def PostGoesUptoSaid : Prop := postGoesUptoRow.holds Try.pinned (OpenSpec.upto postGoesSpec)

/-- 'cocketlaw09.PostCopies', WHERE WHAT IT READS IS OF BULK AT MOST 1048576: true; the input reads as it did. -/
def postCopiesUptoRow : OpenClaim := { program := "ytfdnbokgakjplaa", sum := "df3779eb899739b82314bf90ec894de223004748c4af74a24318145694797966", func := "cocket/cocketlaw09.PostCopies", spec := "postCopies", plainKeys := false, apart := false, narrowed := true }
def PostCopiesUptoSaid : Prop := postCopiesUptoRow.holds Try.pinned (OpenSpec.upto postCopiesSpec)

/-- 'cocketlaw09.PostNobody', WHERE WHAT IT READS IS OF BULK AT MOST 1048576: true; the input reads as it did. -/
def postNobodyUptoRow : OpenClaim := { program := "ytfdnbokgakjplaa", sum := "df3779eb899739b82314bf90ec894de223004748c4af74a24318145694797966", func := "cocket/cocketlaw09.PostNobody", spec := "postNobody", plainKeys := false, apart := false, narrowed := true }
def PostNobodyUptoSaid : Prop := postNobodyUptoRow.holds Try.pinned (OpenSpec.upto postNobodySpec)

/-- 'cocketlaw09.PostFewer', WHERE WHAT IT READS IS OF BULK AT MOST 1048576: true; the input reads as it did. -/
def postFewerUptoRow : OpenClaim := { program := "ytfdnbokgakjplaa", sum := "df3779eb899739b82314bf90ec894de223004748c4af74a24318145694797966", func := "cocket/cocketlaw09.PostFewer", spec := "postFewer", inPlace := ["(*sync.WaitGroup).Add", "internal/race.ReleaseMerge", "internal/race.Disable", "internal/race.Enable", "internal/synctest.IsInBubble", "internal/synctest.Associate[sync.WaitGroup]", "sync.fatal", "sync/atomic.OrUint64", "sync/atomic.AddUint64", "internal/race.Read", "sync/atomic.LoadUint64", "sync/atomic.StoreUint64", "internal/synctest.Disassociate[sync.WaitGroup]", "sync.runtime_Semrelease", "(*sync.WaitGroup).Done", "(*sync.WaitGroup).Wait", "internal/race.Acquire", "internal/synctest.IsAssociated[sync.WaitGroup]", "sync/atomic.CompareAndSwapUint64", "internal/race.Write", "sync.runtime_SemacquireWaitGroup"], unfollowed := true, recurses := true, plainKeys := false, leaving := true, apart := false, narrowed := true }
def PostFewerUptoSaid : Prop := postFewerUptoRow.holds Try.pinned (OpenSpec.upto postFewerSpec)

/-- 'cocketlaw09.PostAtomics', WHERE WHAT IT READS IS OF BULK AT MOST 1048576: true; the input reads as it did. -/
def postAtomicsUptoRow : OpenClaim := { program := "ytfdnbokgakjplaa", sum := "df3779eb899739b82314bf90ec894de223004748c4af74a24318145694797966", func := "cocket/cocketlaw09.PostAtomics", spec := "postAtomics", inPlace := ["(*sync.WaitGroup).Add", "internal/race.ReleaseMerge", "internal/race.Disable", "internal/race.Enable", "internal/synctest.IsInBubble", "internal/synctest.Associate[sync.WaitGroup]", "sync.fatal", "sync/atomic.OrUint64", "sync/atomic.AddUint64", "internal/race.Read", "sync/atomic.LoadUint64", "sync/atomic.StoreUint64", "internal/synctest.Disassociate[sync.WaitGroup]", "sync.runtime_Semrelease", "(*sync.WaitGroup).Done", "(*sync.WaitGroup).Wait", "internal/race.Acquire", "internal/synctest.IsAssociated[sync.WaitGroup]", "sync/atomic.CompareAndSwapUint64", "internal/race.Write", "sync.runtime_SemacquireWaitGroup"], unfollowed := true, recurses := true, plainKeys := false, leaving := true, apart := false, narrowed := true }
def PostAtomicsUptoSaid : Prop := postAtomicsUptoRow.holds Try.pinned (OpenSpec.upto postAtomicsSpec)

/-- 'cocketlaw09.PostSequentials', WHERE WHAT IT READS IS OF BULK AT MOST 1048576: true; the input reads as it did. -/
def postSequentialsUptoRow : OpenClaim := { program := "ytfdnbokgakjplaa", sum := "df3779eb899739b82314bf90ec894de223004748c4af74a24318145694797966", func := "cocket/cocketlaw09.PostSequentials", spec := "postSequentials", inPlace := ["(*sync.WaitGroup).Add", "internal/race.ReleaseMerge", "internal/race.Disable", "internal/race.Enable", "internal/synctest.IsInBubble", "internal/synctest.Associate[sync.WaitGroup]", "sync.fatal", "sync/atomic.OrUint64", "sync/atomic.AddUint64", "internal/race.Read", "sync/atomic.LoadUint64", "sync/atomic.StoreUint64", "internal/synctest.Disassociate[sync.WaitGroup]", "sync.runtime_Semrelease", "(*sync.WaitGroup).Done", "(*sync.WaitGroup).Wait", "internal/race.Acquire", "internal/synctest.IsAssociated[sync.WaitGroup]", "sync/atomic.CompareAndSwapUint64", "internal/race.Write", "sync.runtime_SemacquireWaitGroup"], unfollowed := true, recurses := true, plainKeys := false, leaving := true, apart := false, narrowed := true }
def PostSequentialsUptoSaid : Prop := postSequentialsUptoRow.holds Try.pinned (OpenSpec.upto postSequentialsSpec)

/-- 'cocketlaw09.PostSingle', WHERE WHAT IT READS IS OF BULK AT MOST 1048576: true; the input reads as it did. -/
def postSingleUptoRow : OpenClaim := { program := "ytfdnbokgakjplaa", sum := "df3779eb899739b82314bf90ec894de223004748c4af74a24318145694797966", func := "cocket/cocketlaw09.PostSingle", spec := "postSingle", inPlace := ["(*sync.WaitGroup).Add", "internal/race.ReleaseMerge", "internal/race.Disable", "internal/race.Enable", "internal/synctest.IsInBubble", "internal/synctest.Associate[sync.WaitGroup]", "sync.fatal", "sync/atomic.OrUint64", "sync/atomic.AddUint64", "internal/race.Read", "sync/atomic.LoadUint64", "sync/atomic.StoreUint64", "internal/synctest.Disassociate[sync.WaitGroup]", "sync.runtime_Semrelease", "(*sync.WaitGroup).Done", "(*sync.WaitGroup).Wait", "internal/race.Acquire", "internal/synctest.IsAssociated[sync.WaitGroup]", "sync/atomic.CompareAndSwapUint64", "internal/race.Write", "sync.runtime_SemacquireWaitGroup"], unfollowed := true, recurses := true, plainKeys := false, leaving := true, apart := false, narrowed := true }
def PostSingleUptoSaid : Prop := postSingleUptoRow.holds Try.pinned (OpenSpec.upto postSingleSpec)

/-- 'cocketlaw09.PostHistories', WHERE WHAT IT READS IS OF BULK AT MOST 1048576: true; the input reads as it did. -/
def postHistoriesUptoRow : OpenClaim := { program := "ytfdnbokgakjplaa", sum := "df3779eb899739b82314bf90ec894de223004748c4af74a24318145694797966", func := "cocket/cocketlaw09.PostHistories", spec := "postHistories", inPlace := ["(*sync.WaitGroup).Add", "internal/race.ReleaseMerge", "internal/race.Disable", "internal/race.Enable", "internal/synctest.IsInBubble", "internal/synctest.Associate[sync.WaitGroup]", "sync.fatal", "sync/atomic.OrUint64", "sync/atomic.AddUint64", "internal/race.Read", "sync/atomic.LoadUint64", "sync/atomic.StoreUint64", "internal/synctest.Disassociate[sync.WaitGroup]", "sync.runtime_Semrelease", "(*sync.WaitGroup).Done", "(*sync.WaitGroup).Wait", "internal/race.Acquire", "internal/synctest.IsAssociated[sync.WaitGroup]", "sync/atomic.CompareAndSwapUint64", "internal/race.Write", "sync.runtime_SemacquireWaitGroup"], unfollowed := true, recurses := true, plainKeys := false, leaving := true, apart := false, narrowed := true }
def PostHistoriesUptoSaid : Prop := postHistoriesUptoRow.holds Try.pinned (OpenSpec.upto postHistoriesSpec)

/-- 'cocketlaw09.PostExplained', WHERE WHAT IT READS IS OF BULK AT MOST 1048576: true; the input reads as it did. -/
def postExplainedUptoRow : OpenClaim := { program := "ytfdnbokgakjplaa", sum := "df3779eb899739b82314bf90ec894de223004748c4af74a24318145694797966", func := "cocket/cocketlaw09.PostExplained", spec := "postExplained", inPlace := ["(*sync.WaitGroup).Add", "internal/race.ReleaseMerge", "internal/race.Disable", "internal/race.Enable", "internal/synctest.IsInBubble", "internal/synctest.Associate[sync.WaitGroup]", "sync.fatal", "sync/atomic.OrUint64", "sync/atomic.AddUint64", "internal/race.Read", "sync/atomic.LoadUint64", "sync/atomic.StoreUint64", "internal/synctest.Disassociate[sync.WaitGroup]", "sync.runtime_Semrelease", "(*sync.WaitGroup).Done", "(*sync.WaitGroup).Wait", "internal/race.Acquire", "internal/synctest.IsAssociated[sync.WaitGroup]", "sync/atomic.CompareAndSwapUint64", "internal/race.Write", "sync.runtime_SemacquireWaitGroup"], unfollowed := true, recurses := true, plainKeys := false, leaving := true, apart := false, narrowed := true }
def PostExplainedUptoSaid : Prop := postExplainedUptoRow.holds Try.pinned (OpenSpec.upto postExplainedSpec)

end Rows
end Go.Proofs.Ytfdnbokgakjplaa
