/-
  DERIVED. GIVEN WITH THE SEED: THE CARDS: each row of YtpglimkffholhaaGreatDoorRows.lean that lists a variable, with what it lists TIED to the program's text (the seventh form; the later family's looks); each row that meets fmt, with fmt's text TOLD by the authors' own Lean function (tested against real Go, not proved from fmt's source: count such statements apart). THE CARD IS WHAT COUNTS. Prove the row's statement (the work); the ties are given (YtpglimkffholhaaGreatDoorTie.lean); close each card by the builder's one call (the guide's Derived/Test/ToyasCard.lean, 'card_holds'). Laid BY PROGRAM, IN A SANDBOX (cutbox-door.mjs). By AI agents, Wed Nov 11 2026. No macro, syntax, notation, axiom, sorry.
-/
import Derived.Test.YtpglimkffholhaaGreatDoorRows
import GoSem.ClaimSeven
namespace Go.Proofs.YtpglimkffholhaaGreatDoor
namespace Rows

/-- THE TIED CARD OF 'galloonlaw02.SeamSewns'. -/
def seamSewnsCard : Claim7 := { stood := { row := seamSewnsRow, standIns := [], harness := (true, "3262dc1865d98ad69709e021908b237b76b0c20fc1f75e7a4463cc4b64a3c535"), looks := true }, kinds := [], alts := [], goes := true, laidByText := true, laidKinds := [.handle], laidTests := true, laidLooks := .later }
def SeamSewnsCardSaid : Prop := Claim7.holds Tryz.pinned (.plain (OpenSpec.ofChange seamSewnsSpec)) seamSewnsCard

/-- THE SECOND FORM's CARD OF 'galloonlaw02.SeamSewns'. -/
def seamSewnsUptoCard : Claim7 := { stood := { row := seamSewnsUptoRow, standIns := [], harness := (true, "3262dc1865d98ad69709e021908b237b76b0c20fc1f75e7a4463cc4b64a3c535"), looks := true }, kinds := [], alts := [], goes := true, laidByText := true, laidKinds := [.handle], laidTests := true, laidLooks := .later }
def SeamSewnsUptoCardSaid : Prop := Claim7.holds Tryz.pinned (.plain (OpenSpec.upto seamSewnsSpec)) seamSewnsUptoCard
end Rows
end Go.Proofs.YtpglimkffholhaaGreatDoor
