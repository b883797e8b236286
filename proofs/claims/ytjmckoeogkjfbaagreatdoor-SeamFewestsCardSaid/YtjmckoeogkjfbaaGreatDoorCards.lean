/-
  DERIVED. GIVEN WITH THE SEED: THE CARDS: each row of YtjmckoeogkjfbaaGreatDoorRows.lean that lists a variable, with what it lists TIED to the program's text (the seventh form; the later family's looks); each row that meets fmt, with fmt's text TOLD by the authors' own Lean function (tested against real Go, not proved from fmt's source: count such statements apart). THE CARD IS WHAT COUNTS. Prove the row's statement (the work); the ties are given (YtjmckoeogkjfbaaGreatDoorTie.lean); close each card by the builder's one call (the guide's Derived/Test/ToyasCard.lean, 'card_holds'). Laid BY PROGRAM, IN A SANDBOX (cutbox-door.mjs). By AI agents, Wed Nov 11 2026. No macro, syntax, notation, axiom, sorry.
-/
import Derived.Test.YtjmckoeogkjfbaaGreatDoorRows
import GoSem.ClaimSeven
namespace Go.Proofs.YtjmckoeogkjfbaaGreatDoor
namespace Rows

/-- THE TIED CARD OF 'galloonlaw02.SeamFits'. -/
def seamFitsCard : Claim7 := { stood := { row := seamFitsRow, standIns := [], harness := (true, "9c0765c9ef3282300d67a2610b42c5f567a6947b26a25867ed4cdf43e04bce24"), looks := true }, kinds := [], alts := [], goes := true, laidByText := true, laidKinds := [.handle], laidTests := true, laidLooks := .later }
def SeamFitsCardSaid : Prop := Claim7.holds Tryz.pinned (.plain (OpenSpec.ofChange seamFitsSpec)) seamFitsCard

/-- THE TIED CARD OF 'galloonlaw02.SeamFewests'. -/
def seamFewestsCard : Claim7 := { stood := { row := seamFewestsRow, standIns := [], harness := (true, "9c0765c9ef3282300d67a2610b42c5f567a6947b26a25867ed4cdf43e04bce24"), looks := true }, kinds := [], alts := [], goes := true, laidByText := true, laidKinds := [.handle], laidTests := true, laidLooks := .later }
def SeamFewestsCardSaid : Prop := Claim7.holds Tryz.pinned (.plain (OpenSpec.ofChange seamFewestsSpec)) seamFewestsCard

/-- THE SECOND FORM's CARD OF 'galloonlaw02.SeamFits'. -/
def seamFitsUptoCard : Claim7 := { stood := { row := seamFitsUptoRow, standIns := [], harness := (true, "9c0765c9ef3282300d67a2610b42c5f567a6947b26a25867ed4cdf43e04bce24"), looks := true }, kinds := [], alts := [], goes := true, laidByText := true, laidKinds := [.handle], laidTests := true, laidLooks := .later }
def SeamFitsUptoCardSaid : Prop := Claim7.holds Tryz.pinned (.plain (OpenSpec.upto seamFitsSpec)) seamFitsUptoCard

/-- THE SECOND FORM's CARD OF 'galloonlaw02.SeamFewests'. -/
def seamFewestsUptoCard : Claim7 := { stood := { row := seamFewestsUptoRow, standIns := [], harness := (true, "9c0765c9ef3282300d67a2610b42c5f567a6947b26a25867ed4cdf43e04bce24"), looks := true }, kinds := [], alts := [], goes := true, laidByText := true, laidKinds := [.handle], laidTests := true, laidLooks := .later }
def SeamFewestsUptoCardSaid : Prop := Claim7.holds Tryz.pinned (.plain (OpenSpec.upto seamFewestsSpec)) seamFewestsUptoCard
end Rows
end Go.Proofs.YtjmckoeogkjfbaaGreatDoor
