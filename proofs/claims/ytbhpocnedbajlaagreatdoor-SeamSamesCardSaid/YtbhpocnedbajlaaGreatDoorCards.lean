/-
  DERIVED. GIVEN WITH THE SEED: THE CARDS: each row of YtbhpocnedbajlaaGreatDoorRows.lean that lists a variable, with what it lists TIED to the program's text (the seventh form; the later family's looks); each row that meets fmt, with fmt's text TOLD by the authors' own Lean function (tested against real Go, not proved from fmt's source: count such statements apart). THE CARD IS WHAT COUNTS. Prove the row's statement (the work); the ties are given (YtbhpocnedbajlaaGreatDoorTie.lean); close each card by the builder's one call (the guide's Derived/Test/ToyasCard.lean, 'card_holds'). Laid BY PROGRAM, IN A SANDBOX (cutbox-door.mjs). By AI agents, Wed Nov 11 2026. No macro, syntax, notation, axiom, sorry.
-/
import Derived.Test.YtbhpocnedbajlaaGreatDoorRows
import GoSem.ClaimSeven
namespace Go.Proofs.YtbhpocnedbajlaaGreatDoor
namespace Rows

/-- THE TIED CARD OF 'galloonlaw02.SeamSames'. -/
def seamSamesCard : Claim7 := { stood := { row := seamSamesRow, standIns := [], harness := (true, "daf1fffbe909b58b3bc96c1e7b2812a59cb8545c37cdf1cf7a3b0b79339050e3"), looks := true }, kinds := [], alts := [], goes := true, laidByText := true, laidKinds := [.handle], laidTests := true, laidLooks := .later }
def SeamSamesCardSaid : Prop := Claim7.holds Tryz.pinned (.plain (OpenSpec.ofChange seamSamesSpec)) seamSamesCard

/-- THE TIED CARD OF 'galloonlaw02.SeamKnown'. -/
def seamKnownCard : Claim7 := { stood := { row := seamKnownRow, standIns := [], harness := (true, "daf1fffbe909b58b3bc96c1e7b2812a59cb8545c37cdf1cf7a3b0b79339050e3"), looks := true }, kinds := [], alts := [], goes := true, laidByText := true, laidKinds := [.handle], laidTests := true, laidLooks := .later }
def SeamKnownCardSaid : Prop := Claim7.holds Tryz.pinned (.plain (OpenSpec.ofChange seamKnownSpec)) seamKnownCard

/-- THE SECOND FORM's CARD OF 'galloonlaw02.SeamSames'. -/
def seamSamesUptoCard : Claim7 := { stood := { row := seamSamesUptoRow, standIns := [], harness := (true, "daf1fffbe909b58b3bc96c1e7b2812a59cb8545c37cdf1cf7a3b0b79339050e3"), looks := true }, kinds := [], alts := [], goes := true, laidByText := true, laidKinds := [.handle], laidTests := true, laidLooks := .later }
def SeamSamesUptoCardSaid : Prop := Claim7.holds Tryz.pinned (.plain (OpenSpec.upto seamSamesSpec)) seamSamesUptoCard

/-- THE SECOND FORM's CARD OF 'galloonlaw02.SeamKnown'. -/
def seamKnownUptoCard : Claim7 := { stood := { row := seamKnownUptoRow, standIns := [], harness := (true, "daf1fffbe909b58b3bc96c1e7b2812a59cb8545c37cdf1cf7a3b0b79339050e3"), looks := true }, kinds := [], alts := [], goes := true, laidByText := true, laidKinds := [.handle], laidTests := true, laidLooks := .later }
def SeamKnownUptoCardSaid : Prop := Claim7.holds Tryz.pinned (.plain (OpenSpec.upto seamKnownSpec)) seamKnownUptoCard
end Rows
end Go.Proofs.YtbhpocnedbajlaaGreatDoor
