/-
  DERIVED. GIVEN WITH THE SEED: THE CARDS: each row of YtdhgoldgnnpnmaaGreatDoorRows.lean that lists a variable, with what it lists TIED to the program's text (the seventh form; the later family's looks); each row that meets fmt, with fmt's text TOLD by the authors' own Lean function (tested against real Go, not proved from fmt's source: count such statements apart). THE CARD IS WHAT COUNTS. Prove the row's statement (the work); the ties are given (YtdhgoldgnnpnmaaGreatDoorTie.lean); close each card by the builder's one call (the guide's Derived/Test/ToyasCard.lean, 'card_holds'). Laid BY PROGRAM, IN A SANDBOX (cutbox-door.mjs). By AI agents, Wed Nov 11 2026. No macro, syntax, notation, axiom, sorry.
-/
import Derived.Test.YtdhgoldgnnpnmaaGreatDoorRows
import GoSem.ClaimSeven
namespace Go.Proofs.YtdhgoldgnnpnmaaGreatDoor
namespace Rows

/-- THE TIED CARD OF 'galloonlaw02.SeamSeason'. -/
def seamSeasonCard : Claim7 := { stood := { row := seamSeasonRow, standIns := [], harness := (true, "d8e58fcbf126457d3529a0300f1afd9e09a20b255874a5e6f07e244531e82ea6"), looks := true }, kinds := [], alts := [], goes := true, laidByText := true, laidKinds := [.handle], laidTests := true, laidLooks := .later }
def SeamSeasonCardSaid : Prop := Claim7.holds Tryz.pinned (.plain (OpenSpec.ofChange seamSeasonSpec)) seamSeasonCard

/-- THE SECOND FORM's CARD OF 'galloonlaw02.SeamSeason'. -/
def seamSeasonUptoCard : Claim7 := { stood := { row := seamSeasonUptoRow, standIns := [], harness := (true, "d8e58fcbf126457d3529a0300f1afd9e09a20b255874a5e6f07e244531e82ea6"), looks := true }, kinds := [], alts := [], goes := true, laidByText := true, laidKinds := [.handle], laidTests := true, laidLooks := .later }
def SeamSeasonUptoCardSaid : Prop := Claim7.holds Tryz.pinned (.plain (OpenSpec.upto seamSeasonSpec)) seamSeasonUptoCard
end Rows
end Go.Proofs.YtdhgoldgnnpnmaaGreatDoor
