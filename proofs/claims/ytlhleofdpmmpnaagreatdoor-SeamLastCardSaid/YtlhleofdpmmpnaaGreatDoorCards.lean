/-
  DERIVED. GIVEN WITH THE SEED: THE CARDS: each row of YtlhleofdpmmpnaaGreatDoorRows.lean that lists a variable, with what it lists TIED to the program's text (the seventh form; the later family's looks); each row that meets fmt, with fmt's text TOLD by the authors' own Lean function (tested against real Go, not proved from fmt's source: count such statements apart). THE CARD IS WHAT COUNTS. Prove the row's statement (the work); the ties are given (YtlhleofdpmmpnaaGreatDoorTie.lean); close each card by the builder's one call (the guide's Derived/Test/ToyasCard.lean, 'card_holds'). Laid BY PROGRAM, IN A SANDBOX (cutbox-door.mjs). By AI agents, Wed Nov 11 2026. No macro, syntax, notation, axiom, sorry.
-/
import Derived.Test.YtlhleofdpmmpnaaGreatDoorRows
import GoSem.ClaimSeven
namespace Go.Proofs.YtlhleofdpmmpnaaGreatDoor
namespace Rows

/-- THE TIED CARD OF 'galloonlaw02.SeamLast'. -/
def seamLastCard : Claim7 := { stood := { row := seamLastRow, standIns := [], harness := (true, "9586e77691b63383fe7347e17a6cf5dcab9423d026ffc741b12aea81f40fc786"), looks := true }, kinds := [], alts := [], goes := true, laidByText := true, laidKinds := [.handle], laidTests := true, laidLooks := .later }
def SeamLastCardSaid : Prop := Claim7.holds Tryz.pinned (.plain (OpenSpec.ofChange seamLastSpec)) seamLastCard

/-- THE SECOND FORM's CARD OF 'galloonlaw02.SeamLast'. -/
def seamLastUptoCard : Claim7 := { stood := { row := seamLastUptoRow, standIns := [], harness := (true, "9586e77691b63383fe7347e17a6cf5dcab9423d026ffc741b12aea81f40fc786"), looks := true }, kinds := [], alts := [], goes := true, laidByText := true, laidKinds := [.handle], laidTests := true, laidLooks := .later }
def SeamLastUptoCardSaid : Prop := Claim7.holds Tryz.pinned (.plain (OpenSpec.upto seamLastSpec)) seamLastUptoCard
end Rows
end Go.Proofs.YtlhleofdpmmpnaaGreatDoor
