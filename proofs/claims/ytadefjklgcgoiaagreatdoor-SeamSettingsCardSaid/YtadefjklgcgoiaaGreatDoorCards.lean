/-
  DERIVED. GIVEN WITH THE SEED: THE CARDS: each row of YtadefjklgcgoiaaGreatDoorRows.lean that lists a variable, with what it lists TIED to the program's text (the seventh form; the later family's looks); each row that meets fmt, with fmt's text TOLD by the authors' own Lean function (tested against real Go, not proved from fmt's source: count such statements apart). THE CARD IS WHAT COUNTS. Prove the row's statement (the work); the ties are given (YtadefjklgcgoiaaGreatDoorTie.lean); close each card by the builder's one call (the guide's Derived/Test/ToyasCard.lean, 'card_holds'). Laid BY PROGRAM, IN A SANDBOX (cutbox-door.mjs). By AI agents, Wed Nov 11 2026. No macro, syntax, notation, axiom, sorry.
-/
import Derived.Test.YtadefjklgcgoiaaGreatDoorRows
import GoSem.ClaimSeven
namespace Go.Proofs.YtadefjklgcgoiaaGreatDoor
namespace Rows

/-- THE TIED CARD OF 'galloonlaw02.SeamSettings'. -/
def seamSettingsCard : Claim7 := { stood := { row := seamSettingsRow, standIns := [], harness := (true, "393a99976d99f03c7095e21ed558cf07369aab0dd98afa9b6934cd35f330a753"), looks := true }, kinds := [], alts := [], goes := true, laidByText := true, laidKinds := [.handle], laidTests := true, laidLooks := .later }
def SeamSettingsCardSaid : Prop := Claim7.holds Tryz.pinned (.plain (OpenSpec.ofChange seamSettingsSpec)) seamSettingsCard

/-- THE SECOND FORM's CARD OF 'galloonlaw02.SeamSettings'. -/
def seamSettingsUptoCard : Claim7 := { stood := { row := seamSettingsUptoRow, standIns := [], harness := (true, "393a99976d99f03c7095e21ed558cf07369aab0dd98afa9b6934cd35f330a753"), looks := true }, kinds := [], alts := [], goes := true, laidByText := true, laidKinds := [.handle], laidTests := true, laidLooks := .later }
def SeamSettingsUptoCardSaid : Prop := Claim7.holds Tryz.pinned (.plain (OpenSpec.upto seamSettingsSpec)) seamSettingsUptoCard
end Rows
end Go.Proofs.YtadefjklgcgoiaaGreatDoor
