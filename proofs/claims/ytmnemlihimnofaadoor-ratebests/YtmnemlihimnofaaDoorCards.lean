/-
  DERIVED. GIVEN WITH THE SEED: THE CARDS: each row of YtmnemlihimnofaaDoorRows.lean that lists a variable, with what it lists TIED to the program's text (the seventh form; the later family's looks); each row that meets fmt, with fmt's text TOLD by the authors' own Lean function (tested against real Go, not proved from fmt's source: count such statements apart). THE CARD IS WHAT COUNTS. Prove the row's statement (the work); the ties are given (YtmnemlihimnofaaDoorTie.lean); close each card by the builder's one call (the guide's Derived/Test/ToyasCard.lean, 'card_holds'). Laid BY PROGRAM, IN A SANDBOX (cutbox-door.mjs). By AI agents, Wed Nov 11 2026. No macro, syntax, notation, axiom, sorry.
-/
import Derived.Test.YtmnemlihimnofaaDoorRows
import GoSem.ClaimSeven
namespace Go.Proofs.YtmnemlihimnofaaDoor
namespace Rows

/-- THE TIED CARD OF 'cocketlaw01.RateBests'. -/
def rateBestsCard : Claim7 := { stood := { row := rateBestsRow, standIns := [], harness := (true, "56f7fad17d63e7375a0d1bc2db28d0b59ecd0ace439b3f3e2727ad236bb71e65"), looks := false }, kinds := [], alts := [], laidByText := true, laidKinds := [.data], laidTests := true, laidLooks := .later }
def RateBestsCardSaid : Prop := Claim7.holds Tryd.pinned (.plain (OpenSpec.ofChange rateBestsSpec)) rateBestsCard

/-- THE TIED CARD OF 'cocketlaw01.RatePrices'. -/
def ratePricesCard : Claim7 := { stood := { row := ratePricesRow, standIns := [], harness := (true, "56f7fad17d63e7375a0d1bc2db28d0b59ecd0ace439b3f3e2727ad236bb71e65"), looks := false }, kinds := [], alts := [], laidByText := true, laidKinds := [.data], laidTests := true, laidLooks := .later }
def RatePricesCardSaid : Prop := Claim7.holds Tryd.pinned (.plain (OpenSpec.ofChange ratePricesSpec)) ratePricesCard

/-- THE TIED CARD OF 'cocketlaw01.RateRounds'. -/
def rateRoundsCard : Claim7 := { stood := { row := rateRoundsRow, standIns := [], harness := (true, "56f7fad17d63e7375a0d1bc2db28d0b59ecd0ace439b3f3e2727ad236bb71e65"), looks := false }, kinds := [], alts := [], laidByText := true, laidKinds := [.data], laidTests := true, laidLooks := .later }
def RateRoundsCardSaid : Prop := Claim7.holds Tryd.pinned (.plain (OpenSpec.ofChange rateRoundsSpec)) rateRoundsCard

/-- THE TIED CARD OF 'cocketlaw01.RateRenumbered'. -/
def rateRenumberedCard : Claim7 := { stood := { row := rateRenumberedRow, standIns := [], harness := (true, "56f7fad17d63e7375a0d1bc2db28d0b59ecd0ace439b3f3e2727ad236bb71e65"), looks := false }, kinds := [], alts := [], laidByText := true, laidKinds := [.data], laidTests := true, laidLooks := .later }
def RateRenumberedCardSaid : Prop := Claim7.holds Tryd.pinned (.plain (OpenSpec.ofChange rateRenumberedSpec)) rateRenumberedCard

/-- THE TIED CARD OF 'cocketlaw01.RateSpreads'. -/
def rateSpreadsCard : Claim7 := { stood := { row := rateSpreadsRow, standIns := [], harness := (true, "56f7fad17d63e7375a0d1bc2db28d0b59ecd0ace439b3f3e2727ad236bb71e65"), looks := false }, kinds := [], alts := [], laidByText := true, laidKinds := [.data], laidTests := true, laidLooks := .later }
def RateSpreadsCardSaid : Prop := Claim7.holds Tryd.pinned (.plain (OpenSpec.ofChange rateSpreadsSpec)) rateSpreadsCard

/-- THE TIED CARD OF 'cocketlaw01.RateNeedless'. -/
def rateNeedlessCard : Claim7 := { stood := { row := rateNeedlessRow, standIns := [], harness := (true, "56f7fad17d63e7375a0d1bc2db28d0b59ecd0ace439b3f3e2727ad236bb71e65"), looks := false }, kinds := [], alts := [], laidByText := true, laidKinds := [.data], laidTests := true, laidLooks := .later }
def RateNeedlessCardSaid : Prop := Claim7.holds Tryd.pinned (.plain (OpenSpec.ofChange rateNeedlessSpec)) rateNeedlessCard

/-- THE TIED CARD OF 'cocketlaw01.RateSpares'. -/
def rateSparesCard : Claim7 := { stood := { row := rateSparesRow, standIns := [], harness := (true, "56f7fad17d63e7375a0d1bc2db28d0b59ecd0ace439b3f3e2727ad236bb71e65"), looks := false }, kinds := [], alts := [], laidByText := true, laidKinds := [.data], laidTests := true, laidLooks := .later }
def RateSparesCardSaid : Prop := Claim7.holds Tryd.pinned (.plain (OpenSpec.ofChange rateSparesSpec)) rateSparesCard

/-- THE TIED CARD OF 'cocketlaw01.RateChanges'. -/
def rateChangesCard : Claim7 := { stood := { row := rateChangesRow, standIns := [], harness := (true, "56f7fad17d63e7375a0d1bc2db28d0b59ecd0ace439b3f3e2727ad236bb71e65"), looks := false }, kinds := [], alts := [], laidByText := true, laidKinds := [.data], laidTests := true, laidLooks := .later }
def RateChangesCardSaid : Prop := Claim7.holds Tryd.pinned (.plain (OpenSpec.ofChange rateChangesSpec)) rateChangesCard

/-- THE TIED CARD OF 'cocketlaw01.RateLeast'. -/
def rateLeastCard : Claim7 := { stood := { row := rateLeastRow, standIns := [], harness := (true, "56f7fad17d63e7375a0d1bc2db28d0b59ecd0ace439b3f3e2727ad236bb71e65"), looks := false }, kinds := [], alts := [], laidByText := true, laidKinds := [.data], laidTests := true, laidLooks := .later }
def RateLeastCardSaid : Prop := Claim7.holds Tryd.pinned (.plain (OpenSpec.ofChange rateLeastSpec)) rateLeastCard

/-- THE TIED CARD OF 'cocketlaw01.RateTriangles'. -/
def rateTrianglesCard : Claim7 := { stood := { row := rateTrianglesRow, standIns := [], harness := (true, "56f7fad17d63e7375a0d1bc2db28d0b59ecd0ace439b3f3e2727ad236bb71e65"), looks := false }, kinds := [], alts := [], laidByText := true, laidKinds := [.data], laidTests := true, laidLooks := .later }
def RateTrianglesCardSaid : Prop := Claim7.holds Tryd.pinned (.plain (OpenSpec.ofChange rateTrianglesSpec)) rateTrianglesCard

/-- THE TIED CARD OF 'cocketlaw01.RateTurned'. -/
def rateTurnedCard : Claim7 := { stood := { row := rateTurnedRow, standIns := [], harness := (true, "56f7fad17d63e7375a0d1bc2db28d0b59ecd0ace439b3f3e2727ad236bb71e65"), looks := false }, kinds := [], alts := [], laidByText := true, laidKinds := [.data], laidTests := true, laidLooks := .later }
def RateTurnedCardSaid : Prop := Claim7.holds Tryd.pinned (.plain (OpenSpec.ofChange rateTurnedSpec)) rateTurnedCard

/-- THE TIED CARD OF 'cocketlaw01.RateRounding'. -/
def rateRoundingCard : Claim7 := { stood := { row := rateRoundingRow, standIns := [], harness := (true, "56f7fad17d63e7375a0d1bc2db28d0b59ecd0ace439b3f3e2727ad236bb71e65"), looks := false }, kinds := [], alts := [], laidByText := true, laidKinds := [.data], laidTests := true, laidLooks := .later }
def RateRoundingCardSaid : Prop := Claim7.holds Tryd.pinned (.plain (OpenSpec.ofChange rateRoundingSpec)) rateRoundingCard

/-- THE TIED CARD OF 'cocketlaw01.RateChecks'. -/
def rateChecksCard : Claim7 := { stood := { row := rateChecksRow, standIns := [], harness := (true, "56f7fad17d63e7375a0d1bc2db28d0b59ecd0ace439b3f3e2727ad236bb71e65"), looks := false }, kinds := [], alts := [], laidByText := true, laidKinds := [.data], laidTests := true, laidLooks := .later }
def RateChecksCardSaid : Prop := Claim7.holds Tryd.pinned (.plain (OpenSpec.ofChange rateChecksSpec)) rateChecksCard

/-- THE TIED CARD OF 'cocketlaw01.RateNever'. -/
def rateNeverCard : Claim7 := { stood := { row := rateNeverRow, standIns := [], harness := (true, "56f7fad17d63e7375a0d1bc2db28d0b59ecd0ace439b3f3e2727ad236bb71e65"), looks := false }, kinds := [], alts := [], laidByText := true, laidKinds := [.data], laidTests := true, laidLooks := .later }
def RateNeverCardSaid : Prop := Claim7.holds Tryd.pinned (.plain (OpenSpec.ofChange rateNeverSpec)) rateNeverCard

/-- THE SECOND FORM's CARD OF 'cocketlaw01.RateBests'. -/
def rateBestsUptoCard : Claim7 := { stood := { row := rateBestsUptoRow, standIns := [], harness := (true, "56f7fad17d63e7375a0d1bc2db28d0b59ecd0ace439b3f3e2727ad236bb71e65"), looks := false }, kinds := [], alts := [], laidByText := true, laidKinds := [.data], laidTests := true, laidLooks := .later }
def RateBestsUptoCardSaid : Prop := Claim7.holds Tryd.pinned (.plain (OpenSpec.upto rateBestsSpec)) rateBestsUptoCard

/-- THE SECOND FORM's CARD OF 'cocketlaw01.RatePrices'. -/
def ratePricesUptoCard : Claim7 := { stood := { row := ratePricesUptoRow, standIns := [], harness := (true, "56f7fad17d63e7375a0d1bc2db28d0b59ecd0ace439b3f3e2727ad236bb71e65"), looks := false }, kinds := [], alts := [], laidByText := true, laidKinds := [.data], laidTests := true, laidLooks := .later }
def RatePricesUptoCardSaid : Prop := Claim7.holds Tryd.pinned (.plain (OpenSpec.upto ratePricesSpec)) ratePricesUptoCard

/-- THE SECOND FORM's CARD OF 'cocketlaw01.RateRounds'. -/
def rateRoundsUptoCard : Claim7 := { stood := { row := rateRoundsUptoRow, standIns := [], harness := (true, "56f7fad17d63e7375a0d1bc2db28d0b59ecd0ace439b3f3e2727ad236bb71e65"), looks := false }, kinds := [], alts := [], laidByText := true, laidKinds := [.data], laidTests := true, laidLooks := .later }
def RateRoundsUptoCardSaid : Prop := Claim7.holds Tryd.pinned (.plain (OpenSpec.upto rateRoundsSpec)) rateRoundsUptoCard

/-- THE SECOND FORM's CARD OF 'cocketlaw01.RateRenumbered'. -/
def rateRenumberedUptoCard : Claim7 := { stood := { row := rateRenumberedUptoRow, standIns := [], harness := (true, "56f7fad17d63e7375a0d1bc2db28d0b59ecd0ace439b3f3e2727ad236bb71e65"), looks := false }, kinds := [], alts := [], laidByText := true, laidKinds := [.data], laidTests := true, laidLooks := .later }
def RateRenumberedUptoCardSaid : Prop := Claim7.holds Tryd.pinned (.plain (OpenSpec.upto rateRenumberedSpec)) rateRenumberedUptoCard

/-- THE SECOND FORM's CARD OF 'cocketlaw01.RateSpreads'. -/
def rateSpreadsUptoCard : Claim7 := { stood := { row := rateSpreadsUptoRow, standIns := [], harness := (true, "56f7fad17d63e7375a0d1bc2db28d0b59ecd0ace439b3f3e2727ad236bb71e65"), looks := false }, kinds := [], alts := [], laidByText := true, laidKinds := [.data], laidTests := true, laidLooks := .later }
def RateSpreadsUptoCardSaid : Prop := Claim7.holds Tryd.pinned (.plain (OpenSpec.upto rateSpreadsSpec)) rateSpreadsUptoCard

/-- THE SECOND FORM's CARD OF 'cocketlaw01.RateNeedless'. -/
def rateNeedlessUptoCard : Claim7 := { stood := { row := rateNeedlessUptoRow, standIns := [], harness := (true, "56f7fad17d63e7375a0d1bc2db28d0b59ecd0ace439b3f3e2727ad236bb71e65"), looks := false }, kinds := [], alts := [], laidByText := true, laidKinds := [.data], laidTests := true, laidLooks := .later }
def RateNeedlessUptoCardSaid : Prop := Claim7.holds Tryd.pinned (.plain (OpenSpec.upto rateNeedlessSpec)) rateNeedlessUptoCard

/-- THE SECOND FORM's CARD OF 'cocketlaw01.RateSpares'. -/
def rateSparesUptoCard : Claim7 := { stood := { row := rateSparesUptoRow, standIns := [], harness := (true, "56f7fad17d63e7375a0d1bc2db28d0b59ecd0ace439b3f3e2727ad236bb71e65"), looks := false }, kinds := [], alts := [], laidByText := true, laidKinds := [.data], laidTests := true, laidLooks := .later }
def RateSparesUptoCardSaid : Prop := Claim7.holds Tryd.pinned (.plain (OpenSpec.upto rateSparesSpec)) rateSparesUptoCard

/-- THE SECOND FORM's CARD OF 'cocketlaw01.RateChanges'. -/
def rateChangesUptoCard : Claim7 := { stood := { row := rateChangesUptoRow, standIns := [], harness := (true, "56f7fad17d63e7375a0d1bc2db28d0b59ecd0ace439b3f3e2727ad236bb71e65"), looks := false }, kinds := [], alts := [], laidByText := true, laidKinds := [.data], laidTests := true, laidLooks := .later }
def RateChangesUptoCardSaid : Prop := Claim7.holds Tryd.pinned (.plain (OpenSpec.upto rateChangesSpec)) rateChangesUptoCard

/-- THE SECOND FORM's CARD OF 'cocketlaw01.RateLeast'. -/
def rateLeastUptoCard : Claim7 := { stood := { row := rateLeastUptoRow, standIns := [], harness := (true, "56f7fad17d63e7375a0d1bc2db28d0b59ecd0ace439b3f3e2727ad236bb71e65"), looks := false }, kinds := [], alts := [], laidByText := true, laidKinds := [.data], laidTests := true, laidLooks := .later }
def RateLeastUptoCardSaid : Prop := Claim7.holds Tryd.pinned (.plain (OpenSpec.upto rateLeastSpec)) rateLeastUptoCard

/-- THE SECOND FORM's CARD OF 'cocketlaw01.RateTriangles'. -/
def rateTrianglesUptoCard : Claim7 := { stood := { row := rateTrianglesUptoRow, standIns := [], harness := (true, "56f7fad17d63e7375a0d1bc2db28d0b59ecd0ace439b3f3e2727ad236bb71e65"), looks := false }, kinds := [], alts := [], laidByText := true, laidKinds := [.data], laidTests := true, laidLooks := .later }
def RateTrianglesUptoCardSaid : Prop := Claim7.holds Tryd.pinned (.plain (OpenSpec.upto rateTrianglesSpec)) rateTrianglesUptoCard

/-- THE SECOND FORM's CARD OF 'cocketlaw01.RateTurned'. -/
def rateTurnedUptoCard : Claim7 := { stood := { row := rateTurnedUptoRow, standIns := [], harness := (true, "56f7fad17d63e7375a0d1bc2db28d0b59ecd0ace439b3f3e2727ad236bb71e65"), looks := false }, kinds := [], alts := [], laidByText := true, laidKinds := [.data], laidTests := true, laidLooks := .later }
def RateTurnedUptoCardSaid : Prop := Claim7.holds Tryd.pinned (.plain (OpenSpec.upto rateTurnedSpec)) rateTurnedUptoCard

/-- THE SECOND FORM's CARD OF 'cocketlaw01.RateRounding'. -/
def rateRoundingUptoCard : Claim7 := { stood := { row := rateRoundingUptoRow, standIns := [], harness := (true, "56f7fad17d63e7375a0d1bc2db28d0b59ecd0ace439b3f3e2727ad236bb71e65"), looks := false }, kinds := [], alts := [], laidByText := true, laidKinds := [.data], laidTests := true, laidLooks := .later }
def RateRoundingUptoCardSaid : Prop := Claim7.holds Tryd.pinned (.plain (OpenSpec.upto rateRoundingSpec)) rateRoundingUptoCard

/-- THE SECOND FORM's CARD OF 'cocketlaw01.RateChecks'. -/
def rateChecksUptoCard : Claim7 := { stood := { row := rateChecksUptoRow, standIns := [], harness := (true, "56f7fad17d63e7375a0d1bc2db28d0b59ecd0ace439b3f3e2727ad236bb71e65"), looks := false }, kinds := [], alts := [], laidByText := true, laidKinds := [.data], laidTests := true, laidLooks := .later }
def RateChecksUptoCardSaid : Prop := Claim7.holds Tryd.pinned (.plain (OpenSpec.upto rateChecksSpec)) rateChecksUptoCard

/-- THE SECOND FORM's CARD OF 'cocketlaw01.RateNever'. -/
def rateNeverUptoCard : Claim7 := { stood := { row := rateNeverUptoRow, standIns := [], harness := (true, "56f7fad17d63e7375a0d1bc2db28d0b59ecd0ace439b3f3e2727ad236bb71e65"), looks := false }, kinds := [], alts := [], laidByText := true, laidKinds := [.data], laidTests := true, laidLooks := .later }
def RateNeverUptoCardSaid : Prop := Claim7.holds Tryd.pinned (.plain (OpenSpec.upto rateNeverSpec)) rateNeverUptoCard
end Rows
end Go.Proofs.YtmnemlihimnofaaDoor
