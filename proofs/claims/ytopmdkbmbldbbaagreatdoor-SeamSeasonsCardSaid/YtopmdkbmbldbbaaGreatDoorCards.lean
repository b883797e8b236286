/-
  DERIVED. GIVEN WITH THE SEED: THE CARDS: each row of YtopmdkbmbldbbaaGreatDoorRows.lean that lists a variable, with what it lists TIED to the program's text (the seventh form; the later family's looks); each row that meets fmt, with fmt's text TOLD by the authors' own Lean function (tested against real Go, not proved from fmt's source: count such statements apart). THE CARD IS WHAT COUNTS. Prove the row's statement (the work); the ties are given (YtopmdkbmbldbbaaGreatDoorTie.lean); close each card by the builder's one call (the guide's Derived/Test/ToyasCard.lean, 'card_holds'). Laid BY PROGRAM, IN A SANDBOX (cutbox-door.mjs). By AI agents, Wed Nov 11 2026. No macro, syntax, notation, axiom, sorry.
-/
import Derived.Test.YtopmdkbmbldbbaaGreatDoorRows
import GoSem.ClaimSeven
namespace Go.Proofs.YtopmdkbmbldbbaaGreatDoor
namespace Rows

/-- THE TIED CARD OF 'galloonlaw02.SeamSeasons'. -/
def seamSeasonsCard : Claim7 := { stood := { row := seamSeasonsRow, standIns := [], harness := (true, "f5bc8d1ac3b99de9e1e8858c41b1847b3a35b289d2f569d80110d9c41ae2ed4e"), looks := true }, kinds := [], alts := [], goes := true, laidByText := true, laidKinds := [.handle], laidTests := true, laidLooks := .later }
def SeamSeasonsCardSaid : Prop := Claim7.holds Tryz.pinned (.plain (OpenSpec.ofChange seamSeasonsSpec)) seamSeasonsCard

/-- THE SECOND FORM's CARD OF 'galloonlaw02.SeamSeasons'. -/
def seamSeasonsUptoCard : Claim7 := { stood := { row := seamSeasonsUptoRow, standIns := [], harness := (true, "f5bc8d1ac3b99de9e1e8858c41b1847b3a35b289d2f569d80110d9c41ae2ed4e"), looks := true }, kinds := [], alts := [], goes := true, laidByText := true, laidKinds := [.handle], laidTests := true, laidLooks := .later }
def SeamSeasonsUptoCardSaid : Prop := Claim7.holds Tryz.pinned (.plain (OpenSpec.upto seamSeasonsSpec)) seamSeasonsUptoCard
end Rows
end Go.Proofs.YtopmdkbmbldbbaaGreatDoor
