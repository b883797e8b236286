/-
  DERIVED. GIVEN WITH THE SEED: THE CARDS: each row of YtebhdbbhmdeelaaGreatDoorRows.lean that lists a variable, with what it lists TIED to the program's text (the seventh form; the later family's looks); each row that meets fmt, with fmt's text TOLD by the authors' own Lean function (tested against real Go, not proved from fmt's source: count such statements apart). THE CARD IS WHAT COUNTS. Prove the row's statement (the work); the ties are given (YtebhdbbhmdeelaaGreatDoorTie.lean); close each card by the builder's one call (the guide's Derived/Test/ToyasCard.lean, 'card_holds'). Laid BY PROGRAM, IN A SANDBOX (cutbox-door.mjs). By AI agents, Wed Nov 11 2026. No macro, syntax, notation, axiom, sorry.
-/
import Derived.Test.YtebhdbbhmdeelaaGreatDoorRows
import GoSem.ClaimSeven
namespace Go.Proofs.YtebhdbbhmdeelaaGreatDoor
namespace Rows

/-- THE TIED CARD OF 'galloonlaw02.SeamLasts'. -/
def seamLastsCard : Claim7 := { stood := { row := seamLastsRow, standIns := [], harness := (true, "fa5a316215c0550d9822c93e92e789b2e32ffe9dfc961d2a1a618ac15631f803"), looks := true }, kinds := [], alts := [], goes := true, laidByText := true, laidKinds := [.handle], laidTests := true, laidLooks := .later }
def SeamLastsCardSaid : Prop := Claim7.holds Tryz.pinned (.plain (OpenSpec.ofChange seamLastsSpec)) seamLastsCard

/-- THE SECOND FORM's CARD OF 'galloonlaw02.SeamLasts'. -/
def seamLastsUptoCard : Claim7 := { stood := { row := seamLastsUptoRow, standIns := [], harness := (true, "fa5a316215c0550d9822c93e92e789b2e32ffe9dfc961d2a1a618ac15631f803"), looks := true }, kinds := [], alts := [], goes := true, laidByText := true, laidKinds := [.handle], laidTests := true, laidLooks := .later }
def SeamLastsUptoCardSaid : Prop := Claim7.holds Tryz.pinned (.plain (OpenSpec.upto seamLastsSpec)) seamLastsUptoCard
end Rows
end Go.Proofs.YtebhdbbhmdeelaaGreatDoor
