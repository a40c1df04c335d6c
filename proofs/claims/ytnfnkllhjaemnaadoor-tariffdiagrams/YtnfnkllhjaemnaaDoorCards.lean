/-
  DERIVED. GIVEN WITH THE SEED: THE CARDS: each row of YtnfnkllhjaemnaaDoorRows.lean that lists a variable, with what it lists TIED to the program's text (the seventh form; the later family's looks); each row that meets fmt, with fmt's text TOLD by the authors' own Lean function (tested against real Go, not proved from fmt's source: count such statements apart). THE CARD IS WHAT COUNTS. Prove the row's statement (the work); the ties are given (YtnfnkllhjaemnaaDoorTie.lean); close each card by the builder's one call (the guide's Derived/Test/ToyasCard.lean, 'card_holds'). Laid BY PROGRAM, IN A SANDBOX (cutbox-door.mjs). By AI agents, Wed Nov 11 2026. No macro, syntax, notation, axiom, sorry.
-/
import Derived.Test.YtnfnkllhjaemnaaDoorRows
import GoSem.ClaimSeven
namespace Go.Proofs.YtnfnkllhjaemnaaDoor
namespace Rows

/-- THE TIED CARD OF 'cocketlaw02.TariffGaps'. -/
def tariffGapsCard : Claim7 := { stood := { row := tariffGapsRow, standIns := [], harness := (true, "8f6af8927a6815d34087a00ad4a30e955f0c845f2684720fa811909222407530"), looks := false }, kinds := [], alts := [], laidByText := true, laidKinds := [.data, .data, .data], laidTests := true, laidLooks := .later }
def TariffGapsCardSaid : Prop := Claim7.holds Tryd.pinned (.plain (OpenSpec.ofChange tariffGapsSpec)) tariffGapsCard

/-- THE TIED CARD OF 'cocketlaw02.TariffDiagrams'. -/
def tariffDiagramsCard : Claim7 := { stood := { row := tariffDiagramsRow, standIns := [], harness := (true, "8f6af8927a6815d34087a00ad4a30e955f0c845f2684720fa811909222407530"), looks := false }, kinds := [], alts := [], laidByText := true, laidKinds := [.data, .data, .data], laidTests := true, laidLooks := .later }
def TariffDiagramsCardSaid : Prop := Claim7.holds Tryd.pinned (.plain (OpenSpec.ofChange tariffDiagramsSpec)) tariffDiagramsCard

/-- THE TIED CARD OF 'cocketlaw02.TariffCounts'. -/
def tariffCountsCard : Claim7 := { stood := { row := tariffCountsRow, standIns := [], harness := (true, "8f6af8927a6815d34087a00ad4a30e955f0c845f2684720fa811909222407530"), looks := false }, kinds := [], alts := [], laidByText := true, laidKinds := [.data, .data, .data], laidTests := true, laidLooks := .later }
def TariffCountsCardSaid : Prop := Claim7.holds Tryd.pinned (.plain (OpenSpec.ofChange tariffCountsSpec)) tariffCountsCard

/-- THE TIED CARD OF 'cocketlaw02.TariffSums'. -/
def tariffSumsCard : Claim7 := { stood := { row := tariffSumsRow, standIns := [], harness := (true, "8f6af8927a6815d34087a00ad4a30e955f0c845f2684720fa811909222407530"), looks := false }, kinds := [], alts := [], laidByText := true, laidKinds := [.data, .data, .data], laidTests := true, laidLooks := .later }
def TariffSumsCardSaid : Prop := Claim7.holds Tryd.pinned (.plain (OpenSpec.ofChange tariffSumsSpec)) tariffSumsCard

/-- THE TIED CARD OF 'cocketlaw02.TariffDiffers'. -/
def tariffDiffersCard : Claim7 := { stood := { row := tariffDiffersRow, standIns := [], harness := (true, "8f6af8927a6815d34087a00ad4a30e955f0c845f2684720fa811909222407530"), looks := false }, kinds := [], alts := [], laidByText := true, laidKinds := [.data, .data, .data], laidTests := true, laidLooks := .later }
def TariffDiffersCardSaid : Prop := Claim7.holds Tryd.pinned (.plain (OpenSpec.ofChange tariffDiffersSpec)) tariffDiffersCard

/-- THE TIED CARD OF 'cocketlaw02.TariffClashes'. -/
def tariffClashesCard : Claim7 := { stood := { row := tariffClashesRow, standIns := [], harness := (true, "8f6af8927a6815d34087a00ad4a30e955f0c845f2684720fa811909222407530"), looks := false }, kinds := [], alts := [], laidByText := true, laidKinds := [.data, .data, .data], laidTests := true, laidLooks := .later }
def TariffClashesCardSaid : Prop := Claim7.holds Tryd.pinned (.plain (OpenSpec.ofChange tariffClashesSpec)) tariffClashesCard

/-- THE TIED CARD OF 'cocketlaw02.TariffCodes'. -/
def tariffCodesCard : Claim7 := { stood := { row := tariffCodesRow, standIns := [], harness := (true, "8f6af8927a6815d34087a00ad4a30e955f0c845f2684720fa811909222407530"), looks := false }, kinds := [], alts := [], laidByText := true, laidKinds := [.data, .data, .data], laidTests := true, laidLooks := .later }
def TariffCodesCardSaid : Prop := Claim7.holds Tryd.pinned (.plain (OpenSpec.ofChange tariffCodesSpec)) tariffCodesCard

/-- THE TIED CARD OF 'cocketlaw02.TariffFollows'. -/
def tariffFollowsCard : Claim7 := { stood := { row := tariffFollowsRow, standIns := [], harness := (true, "8f6af8927a6815d34087a00ad4a30e955f0c845f2684720fa811909222407530"), looks := false }, kinds := [], alts := [], laidByText := true, laidKinds := [.data, .data, .data], laidTests := true, laidLooks := .later }
def TariffFollowsCardSaid : Prop := Claim7.holds Tryd.pinned (.plain (OpenSpec.ofChange tariffFollowsSpec)) tariffFollowsCard

/-- THE TIED CARD OF 'cocketlaw02.TariffLimit'. -/
def tariffLimitCard : Claim7 := { stood := { row := tariffLimitRow, standIns := [], harness := (true, "8f6af8927a6815d34087a00ad4a30e955f0c845f2684720fa811909222407530"), looks := false }, kinds := [], alts := [], laidByText := true, laidKinds := [.data, .data, .data], laidTests := true, laidLooks := .later }
def TariffLimitCardSaid : Prop := Claim7.holds Tryd.pinned (.plain (OpenSpec.ofChange tariffLimitSpec)) tariffLimitCard

/-- THE TIED CARD OF 'cocketlaw02.TariffOrders'. -/
def tariffOrdersCard : Claim7 := { stood := { row := tariffOrdersRow, standIns := [], harness := (true, "8f6af8927a6815d34087a00ad4a30e955f0c845f2684720fa811909222407530"), looks := false }, kinds := [], alts := [], laidByText := true, laidKinds := [.data, .data, .data], laidTests := true, laidLooks := .later }
def TariffOrdersCardSaid : Prop := Claim7.holds Tryd.pinned (.plain (OpenSpec.ofChange tariffOrdersSpec)) tariffOrdersCard

/-- THE TIED CARD OF 'cocketlaw02.TariffLeans'. -/
def tariffLeansCard : Claim7 := { stood := { row := tariffLeansRow, standIns := [], harness := (true, "8f6af8927a6815d34087a00ad4a30e955f0c845f2684720fa811909222407530"), looks := false }, kinds := [], alts := [], laidByText := true, laidKinds := [.data, .data, .data], laidTests := true, laidLooks := .later }
def TariffLeansCardSaid : Prop := Claim7.holds Tryd.pinned (.plain (OpenSpec.ofChange tariffLeansSpec)) tariffLeansCard

/-- THE TIED CARD OF 'cocketlaw02.TariffBehind'. -/
def tariffBehindCard : Claim7 := { stood := { row := tariffBehindRow, standIns := [], harness := (true, "8f6af8927a6815d34087a00ad4a30e955f0c845f2684720fa811909222407530"), looks := false }, kinds := [], alts := [], laidByText := true, laidKinds := [.data, .data, .data], laidTests := true, laidLooks := .later }
def TariffBehindCardSaid : Prop := Claim7.holds Tryd.pinned (.plain (OpenSpec.ofChange tariffBehindSpec)) tariffBehindCard

/-- THE TIED CARD OF 'cocketlaw02.TariffLean'. -/
def tariffLeanCard : Claim7 := { stood := { row := tariffLeanRow, standIns := [], harness := (true, "8f6af8927a6815d34087a00ad4a30e955f0c845f2684720fa811909222407530"), looks := false }, kinds := [], alts := [], laidByText := true, laidKinds := [.data, .data, .data], laidTests := true, laidLooks := .later }
def TariffLeanCardSaid : Prop := Claim7.holds Tryd.pinned (.plain (OpenSpec.ofChange tariffLeanSpec)) tariffLeanCard

/-- THE TIED CARD OF 'cocketlaw02.TariffWitnesses'. -/
def tariffWitnessesCard : Claim7 := { stood := { row := tariffWitnessesRow, standIns := [], harness := (true, "8f6af8927a6815d34087a00ad4a30e955f0c845f2684720fa811909222407530"), looks := false }, kinds := [], alts := [], laidByText := true, laidKinds := [.data, .data, .data], laidTests := true, laidLooks := .later }
def TariffWitnessesCardSaid : Prop := Claim7.holds Tryd.pinned (.plain (OpenSpec.ofChange tariffWitnessesSpec)) tariffWitnessesCard

/-- THE TIED CARD OF 'cocketlaw02.TariffCanonical'. -/
def tariffCanonicalCard : Claim7 := { stood := { row := tariffCanonicalRow, standIns := [], harness := (true, "8f6af8927a6815d34087a00ad4a30e955f0c845f2684720fa811909222407530"), looks := false }, kinds := [], alts := [], laidByText := true, laidKinds := [.data, .data, .data], laidTests := true, laidLooks := .later }
def TariffCanonicalCardSaid : Prop := Claim7.holds Tryd.pinned (.plain (OpenSpec.ofChange tariffCanonicalSpec)) tariffCanonicalCard

/-- THE SECOND FORM's CARD OF 'cocketlaw02.TariffGaps'. -/
def tariffGapsUptoCard : Claim7 := { stood := { row := tariffGapsUptoRow, standIns := [], harness := (true, "8f6af8927a6815d34087a00ad4a30e955f0c845f2684720fa811909222407530"), looks := false }, kinds := [], alts := [], laidByText := true, laidKinds := [.data, .data, .data], laidTests := true, laidLooks := .later }
def TariffGapsUptoCardSaid : Prop := Claim7.holds Tryd.pinned (.plain (OpenSpec.upto tariffGapsSpec)) tariffGapsUptoCard

/-- THE SECOND FORM's CARD OF 'cocketlaw02.TariffDiagrams'. -/
def tariffDiagramsUptoCard : Claim7 := { stood := { row := tariffDiagramsUptoRow, standIns := [], harness := (true, "8f6af8927a6815d34087a00ad4a30e955f0c845f2684720fa811909222407530"), looks := false }, kinds := [], alts := [], laidByText := true, laidKinds := [.data, .data, .data], laidTests := true, laidLooks := .later }
def TariffDiagramsUptoCardSaid : Prop := Claim7.holds Tryd.pinned (.plain (OpenSpec.upto tariffDiagramsSpec)) tariffDiagramsUptoCard

/-- THE SECOND FORM's CARD OF 'cocketlaw02.TariffCounts'. -/
def tariffCountsUptoCard : Claim7 := { stood := { row := tariffCountsUptoRow, standIns := [], harness := (true, "8f6af8927a6815d34087a00ad4a30e955f0c845f2684720fa811909222407530"), looks := false }, kinds := [], alts := [], laidByText := true, laidKinds := [.data, .data, .data], laidTests := true, laidLooks := .later }
def TariffCountsUptoCardSaid : Prop := Claim7.holds Tryd.pinned (.plain (OpenSpec.upto tariffCountsSpec)) tariffCountsUptoCard

/-- THE SECOND FORM's CARD OF 'cocketlaw02.TariffSums'. -/
def tariffSumsUptoCard : Claim7 := { stood := { row := tariffSumsUptoRow, standIns := [], harness := (true, "8f6af8927a6815d34087a00ad4a30e955f0c845f2684720fa811909222407530"), looks := false }, kinds := [], alts := [], laidByText := true, laidKinds := [.data, .data, .data], laidTests := true, laidLooks := .later }
def TariffSumsUptoCardSaid : Prop := Claim7.holds Tryd.pinned (.plain (OpenSpec.upto tariffSumsSpec)) tariffSumsUptoCard

/-- THE SECOND FORM's CARD OF 'cocketlaw02.TariffDiffers'. -/
def tariffDiffersUptoCard : Claim7 := { stood := { row := tariffDiffersUptoRow, standIns := [], harness := (true, "8f6af8927a6815d34087a00ad4a30e955f0c845f2684720fa811909222407530"), looks := false }, kinds := [], alts := [], laidByText := true, laidKinds := [.data, .data, .data], laidTests := true, laidLooks := .later }
def TariffDiffersUptoCardSaid : Prop := Claim7.holds Tryd.pinned (.plain (OpenSpec.upto tariffDiffersSpec)) tariffDiffersUptoCard

/-- THE SECOND FORM's CARD OF 'cocketlaw02.TariffClashes'. -/
def tariffClashesUptoCard : Claim7 := { stood := { row := tariffClashesUptoRow, standIns := [], harness := (true, "8f6af8927a6815d34087a00ad4a30e955f0c845f2684720fa811909222407530"), looks := false }, kinds := [], alts := [], laidByText := true, laidKinds := [.data, .data, .data], laidTests := true, laidLooks := .later }
def TariffClashesUptoCardSaid : Prop := Claim7.holds Tryd.pinned (.plain (OpenSpec.upto tariffClashesSpec)) tariffClashesUptoCard

/-- THE SECOND FORM's CARD OF 'cocketlaw02.TariffCodes'. -/
def tariffCodesUptoCard : Claim7 := { stood := { row := tariffCodesUptoRow, standIns := [], harness := (true, "8f6af8927a6815d34087a00ad4a30e955f0c845f2684720fa811909222407530"), looks := false }, kinds := [], alts := [], laidByText := true, laidKinds := [.data, .data, .data], laidTests := true, laidLooks := .later }
def TariffCodesUptoCardSaid : Prop := Claim7.holds Tryd.pinned (.plain (OpenSpec.upto tariffCodesSpec)) tariffCodesUptoCard

/-- THE SECOND FORM's CARD OF 'cocketlaw02.TariffFollows'. -/
def tariffFollowsUptoCard : Claim7 := { stood := { row := tariffFollowsUptoRow, standIns := [], harness := (true, "8f6af8927a6815d34087a00ad4a30e955f0c845f2684720fa811909222407530"), looks := false }, kinds := [], alts := [], laidByText := true, laidKinds := [.data, .data, .data], laidTests := true, laidLooks := .later }
def TariffFollowsUptoCardSaid : Prop := Claim7.holds Tryd.pinned (.plain (OpenSpec.upto tariffFollowsSpec)) tariffFollowsUptoCard

/-- THE SECOND FORM's CARD OF 'cocketlaw02.TariffLimit'. -/
def tariffLimitUptoCard : Claim7 := { stood := { row := tariffLimitUptoRow, standIns := [], harness := (true, "8f6af8927a6815d34087a00ad4a30e955f0c845f2684720fa811909222407530"), looks := false }, kinds := [], alts := [], laidByText := true, laidKinds := [.data, .data, .data], laidTests := true, laidLooks := .later }
def TariffLimitUptoCardSaid : Prop := Claim7.holds Tryd.pinned (.plain (OpenSpec.upto tariffLimitSpec)) tariffLimitUptoCard

/-- THE SECOND FORM's CARD OF 'cocketlaw02.TariffOrders'. -/
def tariffOrdersUptoCard : Claim7 := { stood := { row := tariffOrdersUptoRow, standIns := [], harness := (true, "8f6af8927a6815d34087a00ad4a30e955f0c845f2684720fa811909222407530"), looks := false }, kinds := [], alts := [], laidByText := true, laidKinds := [.data, .data, .data], laidTests := true, laidLooks := .later }
def TariffOrdersUptoCardSaid : Prop := Claim7.holds Tryd.pinned (.plain (OpenSpec.upto tariffOrdersSpec)) tariffOrdersUptoCard

/-- THE SECOND FORM's CARD OF 'cocketlaw02.TariffLeans'. -/
def tariffLeansUptoCard : Claim7 := { stood := { row := tariffLeansUptoRow, standIns := [], harness := (true, "8f6af8927a6815d34087a00ad4a30e955f0c845f2684720fa811909222407530"), looks := false }, kinds := [], alts := [], laidByText := true, laidKinds := [.data, .data, .data], laidTests := true, laidLooks := .later }
def TariffLeansUptoCardSaid : Prop := Claim7.holds Tryd.pinned (.plain (OpenSpec.upto tariffLeansSpec)) tariffLeansUptoCard

/-- THE SECOND FORM's CARD OF 'cocketlaw02.TariffBehind'. -/
def tariffBehindUptoCard : Claim7 := { stood := { row := tariffBehindUptoRow, standIns := [], harness := (true, "8f6af8927a6815d34087a00ad4a30e955f0c845f2684720fa811909222407530"), looks := false }, kinds := [], alts := [], laidByText := true, laidKinds := [.data, .data, .data], laidTests := true, laidLooks := .later }
def TariffBehindUptoCardSaid : Prop := Claim7.holds Tryd.pinned (.plain (OpenSpec.upto tariffBehindSpec)) tariffBehindUptoCard

/-- THE SECOND FORM's CARD OF 'cocketlaw02.TariffLean'. -/
def tariffLeanUptoCard : Claim7 := { stood := { row := tariffLeanUptoRow, standIns := [], harness := (true, "8f6af8927a6815d34087a00ad4a30e955f0c845f2684720fa811909222407530"), looks := false }, kinds := [], alts := [], laidByText := true, laidKinds := [.data, .data, .data], laidTests := true, laidLooks := .later }
def TariffLeanUptoCardSaid : Prop := Claim7.holds Tryd.pinned (.plain (OpenSpec.upto tariffLeanSpec)) tariffLeanUptoCard

/-- THE SECOND FORM's CARD OF 'cocketlaw02.TariffWitnesses'. -/
def tariffWitnessesUptoCard : Claim7 := { stood := { row := tariffWitnessesUptoRow, standIns := [], harness := (true, "8f6af8927a6815d34087a00ad4a30e955f0c845f2684720fa811909222407530"), looks := false }, kinds := [], alts := [], laidByText := true, laidKinds := [.data, .data, .data], laidTests := true, laidLooks := .later }
def TariffWitnessesUptoCardSaid : Prop := Claim7.holds Tryd.pinned (.plain (OpenSpec.upto tariffWitnessesSpec)) tariffWitnessesUptoCard

/-- THE SECOND FORM's CARD OF 'cocketlaw02.TariffCanonical'. -/
def tariffCanonicalUptoCard : Claim7 := { stood := { row := tariffCanonicalUptoRow, standIns := [], harness := (true, "8f6af8927a6815d34087a00ad4a30e955f0c845f2684720fa811909222407530"), looks := false }, kinds := [], alts := [], laidByText := true, laidKinds := [.data, .data, .data], laidTests := true, laidLooks := .later }
def TariffCanonicalUptoCardSaid : Prop := Claim7.holds Tryd.pinned (.plain (OpenSpec.upto tariffCanonicalSpec)) tariffCanonicalUptoCard
end Rows
end Go.Proofs.YtnfnkllhjaemnaaDoor
