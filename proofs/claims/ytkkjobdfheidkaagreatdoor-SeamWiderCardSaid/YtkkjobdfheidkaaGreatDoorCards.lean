/-
  DERIVED. GIVEN WITH THE SEED: THE CARDS: each row of YtkkjobdfheidkaaGreatDoorRows.lean that lists a variable, with what it lists TIED to the program's text (the seventh form; the later family's looks); each row that meets fmt, with fmt's text TOLD by the authors' own Lean function (tested against real Go, not proved from fmt's source: count such statements apart). THE CARD IS WHAT COUNTS. Prove the row's statement (the work); the ties are given (YtkkjobdfheidkaaGreatDoorTie.lean); close each card by the builder's one call (the guide's Derived/Test/ToyasCard.lean, 'card_holds'). Laid BY PROGRAM, IN A SANDBOX (cutbox-door.mjs). By AI agents, Wed Nov 11 2026. No macro, syntax, notation, axiom, sorry.
-/
import Derived.Test.YtkkjobdfheidkaaGreatDoorRows
import GoSem.ClaimSeven
namespace Go.Proofs.YtkkjobdfheidkaaGreatDoor
namespace Rows

/-- THE TIED CARD OF 'galloonlaw02.SeamLasts'. -/
def seamLastsCard : Claim7 := { stood := { row := seamLastsRow, standIns := [], harness := (true, "d58ada5a772cea19d6c1f322b38be8e13f90afce78f95e9e644b853f050ce369"), looks := true }, kinds := [], alts := [], goes := true, laidByText := true, laidKinds := [.handle], laidTests := true, laidLooks := .later }
def SeamLastsCardSaid : Prop := Claim7.holds Tryz.pinned (.plain (OpenSpec.ofChange seamLastsSpec)) seamLastsCard

/-- THE TIED CARD OF 'galloonlaw02.SeamSeasons'. -/
def seamSeasonsCard : Claim7 := { stood := { row := seamSeasonsRow, standIns := [], harness := (true, "d58ada5a772cea19d6c1f322b38be8e13f90afce78f95e9e644b853f050ce369"), looks := true }, kinds := [], alts := [], goes := true, laidByText := true, laidKinds := [.handle], laidTests := true, laidLooks := .later }
def SeamSeasonsCardSaid : Prop := Claim7.holds Tryz.pinned (.plain (OpenSpec.ofChange seamSeasonsSpec)) seamSeasonsCard

/-- THE TIED CARD OF 'galloonlaw02.SeamSteps'. -/
def seamStepsCard : Claim7 := { stood := { row := seamStepsRow, standIns := [], harness := (true, "d58ada5a772cea19d6c1f322b38be8e13f90afce78f95e9e644b853f050ce369"), looks := true }, kinds := [], alts := [], goes := true, laidByText := true, laidKinds := [.handle], laidTests := true, laidLooks := .later }
def SeamStepsCardSaid : Prop := Claim7.holds Tryz.pinned (.plain (OpenSpec.ofChange seamStepsSpec)) seamStepsCard

/-- THE TIED CARD OF 'galloonlaw02.SeamChecks'. -/
def seamChecksCard : Claim7 := { stood := { row := seamChecksRow, standIns := [], harness := (true, "d58ada5a772cea19d6c1f322b38be8e13f90afce78f95e9e644b853f050ce369"), looks := true }, kinds := [], alts := [], goes := true, laidByText := true, laidKinds := [.handle], laidTests := true, laidLooks := .later }
def SeamChecksCardSaid : Prop := Claim7.holds Tryz.pinned (.plain (OpenSpec.ofChange seamChecksSpec)) seamChecksCard

/-- THE TIED CARD OF 'galloonlaw02.SeamClosed'. -/
def seamClosedCard : Claim7 := { stood := { row := seamClosedRow, standIns := [], harness := (true, "d58ada5a772cea19d6c1f322b38be8e13f90afce78f95e9e644b853f050ce369"), looks := true }, kinds := [], alts := [], goes := true, laidByText := true, laidKinds := [.handle], laidTests := true, laidLooks := .later }
def SeamClosedCardSaid : Prop := Claim7.holds Tryz.pinned (.plain (OpenSpec.ofChange seamClosedSpec)) seamClosedCard

/-- THE TIED CARD OF 'galloonlaw02.SeamOrder'. -/
def seamOrderCard : Claim7 := { stood := { row := seamOrderRow, standIns := [], harness := (true, "d58ada5a772cea19d6c1f322b38be8e13f90afce78f95e9e644b853f050ce369"), looks := true }, kinds := [], alts := [], goes := true, laidByText := true, laidKinds := [.handle], laidTests := true, laidLooks := .later }
def SeamOrderCardSaid : Prop := Claim7.holds Tryz.pinned (.plain (OpenSpec.ofChange seamOrderSpec)) seamOrderCard

/-- THE TIED CARD OF 'galloonlaw02.SeamSewns'. -/
def seamSewnsCard : Claim7 := { stood := { row := seamSewnsRow, standIns := [], harness := (true, "d58ada5a772cea19d6c1f322b38be8e13f90afce78f95e9e644b853f050ce369"), looks := true }, kinds := [], alts := [], goes := true, laidByText := true, laidKinds := [.handle], laidTests := true, laidLooks := .later }
def SeamSewnsCardSaid : Prop := Claim7.holds Tryz.pinned (.plain (OpenSpec.ofChange seamSewnsSpec)) seamSewnsCard

/-- THE TIED CARD OF 'galloonlaw02.SeamLast'. -/
def seamLastCard : Claim7 := { stood := { row := seamLastRow, standIns := [], harness := (true, "d58ada5a772cea19d6c1f322b38be8e13f90afce78f95e9e644b853f050ce369"), looks := true }, kinds := [], alts := [], goes := true, laidByText := true, laidKinds := [.handle], laidTests := true, laidLooks := .later }
def SeamLastCardSaid : Prop := Claim7.holds Tryz.pinned (.plain (OpenSpec.ofChange seamLastSpec)) seamLastCard

/-- THE TIED CARD OF 'galloonlaw02.SeamBack'. -/
def seamBackCard : Claim7 := { stood := { row := seamBackRow, standIns := [], harness := (true, "d58ada5a772cea19d6c1f322b38be8e13f90afce78f95e9e644b853f050ce369"), looks := true }, kinds := [], alts := [], goes := true, laidByText := true, laidKinds := [.handle], laidTests := true, laidLooks := .later }
def SeamBackCardSaid : Prop := Claim7.holds Tryz.pinned (.plain (OpenSpec.ofChange seamBackSpec)) seamBackCard

/-- THE TIED CARD OF 'galloonlaw02.SeamFits'. -/
def seamFitsCard : Claim7 := { stood := { row := seamFitsRow, standIns := [], harness := (true, "d58ada5a772cea19d6c1f322b38be8e13f90afce78f95e9e644b853f050ce369"), looks := true }, kinds := [], alts := [], goes := true, laidByText := true, laidKinds := [.handle], laidTests := true, laidLooks := .later }
def SeamFitsCardSaid : Prop := Claim7.holds Tryz.pinned (.plain (OpenSpec.ofChange seamFitsSpec)) seamFitsCard

/-- THE TIED CARD OF 'galloonlaw02.SeamWider'. -/
def seamWiderCard : Claim7 := { stood := { row := seamWiderRow, standIns := [], harness := (true, "d58ada5a772cea19d6c1f322b38be8e13f90afce78f95e9e644b853f050ce369"), looks := true }, kinds := [], alts := [], goes := true, laidByText := true, laidKinds := [.handle], laidTests := true, laidLooks := .later }
def SeamWiderCardSaid : Prop := Claim7.holds Tryz.pinned (.plain (OpenSpec.ofChange seamWiderSpec)) seamWiderCard

/-- THE TIED CARD OF 'galloonlaw02.SeamSames'. -/
def seamSamesCard : Claim7 := { stood := { row := seamSamesRow, standIns := [], harness := (true, "d58ada5a772cea19d6c1f322b38be8e13f90afce78f95e9e644b853f050ce369"), looks := true }, kinds := [], alts := [], goes := true, laidByText := true, laidKinds := [.handle], laidTests := true, laidLooks := .later }
def SeamSamesCardSaid : Prop := Claim7.holds Tryz.pinned (.plain (OpenSpec.ofChange seamSamesSpec)) seamSamesCard

/-- THE TIED CARD OF 'galloonlaw02.SeamSame'. -/
def seamSameCard : Claim7 := { stood := { row := seamSameRow, standIns := [], harness := (true, "d58ada5a772cea19d6c1f322b38be8e13f90afce78f95e9e644b853f050ce369"), looks := true }, kinds := [], alts := [], goes := true, laidByText := true, laidKinds := [.handle], laidTests := true, laidLooks := .later }
def SeamSameCardSaid : Prop := Claim7.holds Tryz.pinned (.plain (OpenSpec.ofChange seamSameSpec)) seamSameCard

/-- THE TIED CARD OF 'galloonlaw02.SeamFitting'. -/
def seamFittingCard : Claim7 := { stood := { row := seamFittingRow, standIns := [], harness := (true, "d58ada5a772cea19d6c1f322b38be8e13f90afce78f95e9e644b853f050ce369"), looks := true }, kinds := [], alts := [], goes := true, laidByText := true, laidKinds := [.handle], laidTests := true, laidLooks := .later }
def SeamFittingCardSaid : Prop := Claim7.holds Tryz.pinned (.plain (OpenSpec.ofChange seamFittingSpec)) seamFittingCard

/-- THE TIED CARD OF 'galloonlaw02.SeamSettings'. -/
def seamSettingsCard : Claim7 := { stood := { row := seamSettingsRow, standIns := [], harness := (true, "d58ada5a772cea19d6c1f322b38be8e13f90afce78f95e9e644b853f050ce369"), looks := true }, kinds := [], alts := [], goes := true, laidByText := true, laidKinds := [.handle], laidTests := true, laidLooks := .later }
def SeamSettingsCardSaid : Prop := Claim7.holds Tryz.pinned (.plain (OpenSpec.ofChange seamSettingsSpec)) seamSettingsCard

/-- THE TIED CARD OF 'galloonlaw02.SeamFewests'. -/
def seamFewestsCard : Claim7 := { stood := { row := seamFewestsRow, standIns := [], harness := (true, "d58ada5a772cea19d6c1f322b38be8e13f90afce78f95e9e644b853f050ce369"), looks := true }, kinds := [], alts := [], goes := true, laidByText := true, laidKinds := [.handle], laidTests := true, laidLooks := .later }
def SeamFewestsCardSaid : Prop := Claim7.holds Tryz.pinned (.plain (OpenSpec.ofChange seamFewestsSpec)) seamFewestsCard

/-- THE TIED CARD OF 'galloonlaw02.SeamReach'. -/
def seamReachCard : Claim7 := { stood := { row := seamReachRow, standIns := [], harness := (true, "d58ada5a772cea19d6c1f322b38be8e13f90afce78f95e9e644b853f050ce369"), looks := true }, kinds := [], alts := [], goes := true, laidByText := true, laidKinds := [.handle], laidTests := true, laidLooks := .later }
def SeamReachCardSaid : Prop := Claim7.holds Tryz.pinned (.plain (OpenSpec.ofChange seamReachSpec)) seamReachCard

/-- THE TIED CARD OF 'galloonlaw02.SeamFewest'. -/
def seamFewestCard : Claim7 := { stood := { row := seamFewestRow, standIns := [], harness := (true, "d58ada5a772cea19d6c1f322b38be8e13f90afce78f95e9e644b853f050ce369"), looks := true }, kinds := [], alts := [], goes := true, laidByText := true, laidKinds := [.handle], laidTests := true, laidLooks := .later }
def SeamFewestCardSaid : Prop := Claim7.holds Tryz.pinned (.plain (OpenSpec.ofChange seamFewestSpec)) seamFewestCard

/-- THE TIED CARD OF 'galloonlaw02.SeamReads'. -/
def seamReadsCard : Claim7 := { stood := { row := seamReadsRow, standIns := [], harness := (true, "d58ada5a772cea19d6c1f322b38be8e13f90afce78f95e9e644b853f050ce369"), looks := true }, kinds := [], alts := [], goes := true, laidByText := true, laidKinds := [.handle], laidTests := true, laidLooks := .later }
def SeamReadsCardSaid : Prop := Claim7.holds Tryz.pinned (.plain (OpenSpec.ofChange seamReadsSpec)) seamReadsCard

/-- THE TIED CARD OF 'galloonlaw02.SeamStrings'. -/
def seamStringsCard : Claim7 := { stood := { row := seamStringsRow, standIns := [], harness := (true, "d58ada5a772cea19d6c1f322b38be8e13f90afce78f95e9e644b853f050ce369"), looks := true }, kinds := [], alts := [], goes := true, laidByText := true, laidKinds := [.handle], laidTests := true, laidLooks := .later }
def SeamStringsCardSaid : Prop := Claim7.holds Tryz.pinned (.plain (OpenSpec.ofChange seamStringsSpec)) seamStringsCard

/-- THE TIED CARD OF 'galloonlaw02.SeamSeason'. -/
def seamSeasonCard : Claim7 := { stood := { row := seamSeasonRow, standIns := [], harness := (true, "d58ada5a772cea19d6c1f322b38be8e13f90afce78f95e9e644b853f050ce369"), looks := true }, kinds := [], alts := [], goes := true, laidByText := true, laidKinds := [.handle], laidTests := true, laidLooks := .later }
def SeamSeasonCardSaid : Prop := Claim7.holds Tryz.pinned (.plain (OpenSpec.ofChange seamSeasonSpec)) seamSeasonCard

/-- THE TIED CARD OF 'galloonlaw02.SeamKnown'. -/
def seamKnownCard : Claim7 := { stood := { row := seamKnownRow, standIns := [], harness := (true, "d58ada5a772cea19d6c1f322b38be8e13f90afce78f95e9e644b853f050ce369"), looks := true }, kinds := [], alts := [], goes := true, laidByText := true, laidKinds := [.handle], laidTests := true, laidLooks := .later }
def SeamKnownCardSaid : Prop := Claim7.holds Tryz.pinned (.plain (OpenSpec.ofChange seamKnownSpec)) seamKnownCard

/-- THE SECOND FORM's CARD OF 'galloonlaw02.SeamLasts'. -/
def seamLastsUptoCard : Claim7 := { stood := { row := seamLastsUptoRow, standIns := [], harness := (true, "d58ada5a772cea19d6c1f322b38be8e13f90afce78f95e9e644b853f050ce369"), looks := true }, kinds := [], alts := [], goes := true, laidByText := true, laidKinds := [.handle], laidTests := true, laidLooks := .later }
def SeamLastsUptoCardSaid : Prop := Claim7.holds Tryz.pinned (.plain (OpenSpec.upto seamLastsSpec)) seamLastsUptoCard

/-- THE SECOND FORM's CARD OF 'galloonlaw02.SeamSeasons'. -/
def seamSeasonsUptoCard : Claim7 := { stood := { row := seamSeasonsUptoRow, standIns := [], harness := (true, "d58ada5a772cea19d6c1f322b38be8e13f90afce78f95e9e644b853f050ce369"), looks := true }, kinds := [], alts := [], goes := true, laidByText := true, laidKinds := [.handle], laidTests := true, laidLooks := .later }
def SeamSeasonsUptoCardSaid : Prop := Claim7.holds Tryz.pinned (.plain (OpenSpec.upto seamSeasonsSpec)) seamSeasonsUptoCard

/-- THE SECOND FORM's CARD OF 'galloonlaw02.SeamSteps'. -/
def seamStepsUptoCard : Claim7 := { stood := { row := seamStepsUptoRow, standIns := [], harness := (true, "d58ada5a772cea19d6c1f322b38be8e13f90afce78f95e9e644b853f050ce369"), looks := true }, kinds := [], alts := [], goes := true, laidByText := true, laidKinds := [.handle], laidTests := true, laidLooks := .later }
def SeamStepsUptoCardSaid : Prop := Claim7.holds Tryz.pinned (.plain (OpenSpec.upto seamStepsSpec)) seamStepsUptoCard

/-- THE SECOND FORM's CARD OF 'galloonlaw02.SeamChecks'. -/
def seamChecksUptoCard : Claim7 := { stood := { row := seamChecksUptoRow, standIns := [], harness := (true, "d58ada5a772cea19d6c1f322b38be8e13f90afce78f95e9e644b853f050ce369"), looks := true }, kinds := [], alts := [], goes := true, laidByText := true, laidKinds := [.handle], laidTests := true, laidLooks := .later }
def SeamChecksUptoCardSaid : Prop := Claim7.holds Tryz.pinned (.plain (OpenSpec.upto seamChecksSpec)) seamChecksUptoCard

/-- THE SECOND FORM's CARD OF 'galloonlaw02.SeamClosed'. -/
def seamClosedUptoCard : Claim7 := { stood := { row := seamClosedUptoRow, standIns := [], harness := (true, "d58ada5a772cea19d6c1f322b38be8e13f90afce78f95e9e644b853f050ce369"), looks := true }, kinds := [], alts := [], goes := true, laidByText := true, laidKinds := [.handle], laidTests := true, laidLooks := .later }
def SeamClosedUptoCardSaid : Prop := Claim7.holds Tryz.pinned (.plain (OpenSpec.upto seamClosedSpec)) seamClosedUptoCard

/-- THE SECOND FORM's CARD OF 'galloonlaw02.SeamOrder'. -/
def seamOrderUptoCard : Claim7 := { stood := { row := seamOrderUptoRow, standIns := [], harness := (true, "d58ada5a772cea19d6c1f322b38be8e13f90afce78f95e9e644b853f050ce369"), looks := true }, kinds := [], alts := [], goes := true, laidByText := true, laidKinds := [.handle], laidTests := true, laidLooks := .later }
def SeamOrderUptoCardSaid : Prop := Claim7.holds Tryz.pinned (.plain (OpenSpec.upto seamOrderSpec)) seamOrderUptoCard

/-- THE SECOND FORM's CARD OF 'galloonlaw02.SeamSewns'. -/
def seamSewnsUptoCard : Claim7 := { stood := { row := seamSewnsUptoRow, standIns := [], harness := (true, "d58ada5a772cea19d6c1f322b38be8e13f90afce78f95e9e644b853f050ce369"), looks := true }, kinds := [], alts := [], goes := true, laidByText := true, laidKinds := [.handle], laidTests := true, laidLooks := .later }
def SeamSewnsUptoCardSaid : Prop := Claim7.holds Tryz.pinned (.plain (OpenSpec.upto seamSewnsSpec)) seamSewnsUptoCard

/-- THE SECOND FORM's CARD OF 'galloonlaw02.SeamLast'. -/
def seamLastUptoCard : Claim7 := { stood := { row := seamLastUptoRow, standIns := [], harness := (true, "d58ada5a772cea19d6c1f322b38be8e13f90afce78f95e9e644b853f050ce369"), looks := true }, kinds := [], alts := [], goes := true, laidByText := true, laidKinds := [.handle], laidTests := true, laidLooks := .later }
def SeamLastUptoCardSaid : Prop := Claim7.holds Tryz.pinned (.plain (OpenSpec.upto seamLastSpec)) seamLastUptoCard

/-- THE SECOND FORM's CARD OF 'galloonlaw02.SeamBack'. -/
def seamBackUptoCard : Claim7 := { stood := { row := seamBackUptoRow, standIns := [], harness := (true, "d58ada5a772cea19d6c1f322b38be8e13f90afce78f95e9e644b853f050ce369"), looks := true }, kinds := [], alts := [], goes := true, laidByText := true, laidKinds := [.handle], laidTests := true, laidLooks := .later }
def SeamBackUptoCardSaid : Prop := Claim7.holds Tryz.pinned (.plain (OpenSpec.upto seamBackSpec)) seamBackUptoCard

/-- THE SECOND FORM's CARD OF 'galloonlaw02.SeamFits'. -/
def seamFitsUptoCard : Claim7 := { stood := { row := seamFitsUptoRow, standIns := [], harness := (true, "d58ada5a772cea19d6c1f322b38be8e13f90afce78f95e9e644b853f050ce369"), looks := true }, kinds := [], alts := [], goes := true, laidByText := true, laidKinds := [.handle], laidTests := true, laidLooks := .later }
def SeamFitsUptoCardSaid : Prop := Claim7.holds Tryz.pinned (.plain (OpenSpec.upto seamFitsSpec)) seamFitsUptoCard

/-- THE SECOND FORM's CARD OF 'galloonlaw02.SeamWider'. -/
def seamWiderUptoCard : Claim7 := { stood := { row := seamWiderUptoRow, standIns := [], harness := (true, "d58ada5a772cea19d6c1f322b38be8e13f90afce78f95e9e644b853f050ce369"), looks := true }, kinds := [], alts := [], goes := true, laidByText := true, laidKinds := [.handle], laidTests := true, laidLooks := .later }
def SeamWiderUptoCardSaid : Prop := Claim7.holds Tryz.pinned (.plain (OpenSpec.upto seamWiderSpec)) seamWiderUptoCard

/-- THE SECOND FORM's CARD OF 'galloonlaw02.SeamSames'. -/
def seamSamesUptoCard : Claim7 := { stood := { row := seamSamesUptoRow, standIns := [], harness := (true, "d58ada5a772cea19d6c1f322b38be8e13f90afce78f95e9e644b853f050ce369"), looks := true }, kinds := [], alts := [], goes := true, laidByText := true, laidKinds := [.handle], laidTests := true, laidLooks := .later }
def SeamSamesUptoCardSaid : Prop := Claim7.holds Tryz.pinned (.plain (OpenSpec.upto seamSamesSpec)) seamSamesUptoCard

/-- THE SECOND FORM's CARD OF 'galloonlaw02.SeamSame'. -/
def seamSameUptoCard : Claim7 := { stood := { row := seamSameUptoRow, standIns := [], harness := (true, "d58ada5a772cea19d6c1f322b38be8e13f90afce78f95e9e644b853f050ce369"), looks := true }, kinds := [], alts := [], goes := true, laidByText := true, laidKinds := [.handle], laidTests := true, laidLooks := .later }
def SeamSameUptoCardSaid : Prop := Claim7.holds Tryz.pinned (.plain (OpenSpec.upto seamSameSpec)) seamSameUptoCard

/-- THE SECOND FORM's CARD OF 'galloonlaw02.SeamFitting'. -/
def seamFittingUptoCard : Claim7 := { stood := { row := seamFittingUptoRow, standIns := [], harness := (true, "d58ada5a772cea19d6c1f322b38be8e13f90afce78f95e9e644b853f050ce369"), looks := true }, kinds := [], alts := [], goes := true, laidByText := true, laidKinds := [.handle], laidTests := true, laidLooks := .later }
def SeamFittingUptoCardSaid : Prop := Claim7.holds Tryz.pinned (.plain (OpenSpec.upto seamFittingSpec)) seamFittingUptoCard

/-- THE SECOND FORM's CARD OF 'galloonlaw02.SeamSettings'. -/
def seamSettingsUptoCard : Claim7 := { stood := { row := seamSettingsUptoRow, standIns := [], harness := (true, "d58ada5a772cea19d6c1f322b38be8e13f90afce78f95e9e644b853f050ce369"), looks := true }, kinds := [], alts := [], goes := true, laidByText := true, laidKinds := [.handle], laidTests := true, laidLooks := .later }
def SeamSettingsUptoCardSaid : Prop := Claim7.holds Tryz.pinned (.plain (OpenSpec.upto seamSettingsSpec)) seamSettingsUptoCard

/-- THE SECOND FORM's CARD OF 'galloonlaw02.SeamFewests'. -/
def seamFewestsUptoCard : Claim7 := { stood := { row := seamFewestsUptoRow, standIns := [], harness := (true, "d58ada5a772cea19d6c1f322b38be8e13f90afce78f95e9e644b853f050ce369"), looks := true }, kinds := [], alts := [], goes := true, laidByText := true, laidKinds := [.handle], laidTests := true, laidLooks := .later }
def SeamFewestsUptoCardSaid : Prop := Claim7.holds Tryz.pinned (.plain (OpenSpec.upto seamFewestsSpec)) seamFewestsUptoCard

/-- THE SECOND FORM's CARD OF 'galloonlaw02.SeamReach'. -/
def seamReachUptoCard : Claim7 := { stood := { row := seamReachUptoRow, standIns := [], harness := (true, "d58ada5a772cea19d6c1f322b38be8e13f90afce78f95e9e644b853f050ce369"), looks := true }, kinds := [], alts := [], goes := true, laidByText := true, laidKinds := [.handle], laidTests := true, laidLooks := .later }
def SeamReachUptoCardSaid : Prop := Claim7.holds Tryz.pinned (.plain (OpenSpec.upto seamReachSpec)) seamReachUptoCard

/-- THE SECOND FORM's CARD OF 'galloonlaw02.SeamFewest'. -/
def seamFewestUptoCard : Claim7 := { stood := { row := seamFewestUptoRow, standIns := [], harness := (true, "d58ada5a772cea19d6c1f322b38be8e13f90afce78f95e9e644b853f050ce369"), looks := true }, kinds := [], alts := [], goes := true, laidByText := true, laidKinds := [.handle], laidTests := true, laidLooks := .later }
def SeamFewestUptoCardSaid : Prop := Claim7.holds Tryz.pinned (.plain (OpenSpec.upto seamFewestSpec)) seamFewestUptoCard

/-- THE SECOND FORM's CARD OF 'galloonlaw02.SeamReads'. -/
def seamReadsUptoCard : Claim7 := { stood := { row := seamReadsUptoRow, standIns := [], harness := (true, "d58ada5a772cea19d6c1f322b38be8e13f90afce78f95e9e644b853f050ce369"), looks := true }, kinds := [], alts := [], goes := true, laidByText := true, laidKinds := [.handle], laidTests := true, laidLooks := .later }
def SeamReadsUptoCardSaid : Prop := Claim7.holds Tryz.pinned (.plain (OpenSpec.upto seamReadsSpec)) seamReadsUptoCard

/-- THE SECOND FORM's CARD OF 'galloonlaw02.SeamStrings'. -/
def seamStringsUptoCard : Claim7 := { stood := { row := seamStringsUptoRow, standIns := [], harness := (true, "d58ada5a772cea19d6c1f322b38be8e13f90afce78f95e9e644b853f050ce369"), looks := true }, kinds := [], alts := [], goes := true, laidByText := true, laidKinds := [.handle], laidTests := true, laidLooks := .later }
def SeamStringsUptoCardSaid : Prop := Claim7.holds Tryz.pinned (.plain (OpenSpec.upto seamStringsSpec)) seamStringsUptoCard

/-- THE SECOND FORM's CARD OF 'galloonlaw02.SeamSeason'. -/
def seamSeasonUptoCard : Claim7 := { stood := { row := seamSeasonUptoRow, standIns := [], harness := (true, "d58ada5a772cea19d6c1f322b38be8e13f90afce78f95e9e644b853f050ce369"), looks := true }, kinds := [], alts := [], goes := true, laidByText := true, laidKinds := [.handle], laidTests := true, laidLooks := .later }
def SeamSeasonUptoCardSaid : Prop := Claim7.holds Tryz.pinned (.plain (OpenSpec.upto seamSeasonSpec)) seamSeasonUptoCard

/-- THE SECOND FORM's CARD OF 'galloonlaw02.SeamKnown'. -/
def seamKnownUptoCard : Claim7 := { stood := { row := seamKnownUptoRow, standIns := [], harness := (true, "d58ada5a772cea19d6c1f322b38be8e13f90afce78f95e9e644b853f050ce369"), looks := true }, kinds := [], alts := [], goes := true, laidByText := true, laidKinds := [.handle], laidTests := true, laidLooks := .later }
def SeamKnownUptoCardSaid : Prop := Claim7.holds Tryz.pinned (.plain (OpenSpec.upto seamKnownSpec)) seamKnownUptoCard
end Rows
end Go.Proofs.YtkkjobdfheidkaaGreatDoor
