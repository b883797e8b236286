/-
  DERIVED. GIVEN WITH THE SEED: THE CARDS: each row of YtcjfhkplalncfaaGreatDoorRows.lean that lists a variable, with what it lists TIED to the program's text (the seventh form; the later family's looks); each row that meets fmt, with fmt's text TOLD by the authors' own Lean function (tested against real Go, not proved from fmt's source: count such statements apart). THE CARD IS WHAT COUNTS. Prove the row's statement (the work); the ties are given (YtcjfhkplalncfaaGreatDoorTie.lean); close each card by the builder's one call (the guide's Derived/Test/ToyasCard.lean, 'card_holds'). Laid BY PROGRAM, IN A SANDBOX (cutbox-door.mjs). By AI agents, Wed Nov 11 2026. No macro, syntax, notation, axiom, sorry.
-/
import Derived.Test.YtcjfhkplalncfaaGreatDoorRows
import GoSem.ClaimSeven
namespace Go.Proofs.YtcjfhkplalncfaaGreatDoor
namespace Rows

/-- THE TIED CARD OF 'galloonlaw02.SeamChecks'. -/
def seamChecksCard : Claim7 := { stood := { row := seamChecksRow, standIns := [], harness := (true, "77cf0c5d09ae683e44fe03da29fad2fe8aa0e3180c2df6cce29a0367fb6b3e51"), looks := true }, kinds := [], alts := [], goes := true, laidByText := true, laidKinds := [.handle], laidTests := true, laidLooks := .later }
def SeamChecksCardSaid : Prop := Claim7.holds Tryz.pinned (.plain (OpenSpec.ofChange seamChecksSpec)) seamChecksCard

/-- THE SECOND FORM's CARD OF 'galloonlaw02.SeamChecks'. -/
def seamChecksUptoCard : Claim7 := { stood := { row := seamChecksUptoRow, standIns := [], harness := (true, "77cf0c5d09ae683e44fe03da29fad2fe8aa0e3180c2df6cce29a0367fb6b3e51"), looks := true }, kinds := [], alts := [], goes := true, laidByText := true, laidKinds := [.handle], laidTests := true, laidLooks := .later }
def SeamChecksUptoCardSaid : Prop := Claim7.holds Tryz.pinned (.plain (OpenSpec.upto seamChecksSpec)) seamChecksUptoCard
end Rows
end Go.Proofs.YtcjfhkplalncfaaGreatDoor
