/-
  DERIVED. GIVEN WITH THE SEED: THE CARDS: each row of YtapjdlcdgnochaaGreatDoorRows.lean that lists a variable, with what it lists TIED to the program's text (the seventh form; the later family's looks); each row that meets fmt, with fmt's text TOLD by the authors' own Lean function (tested against real Go, not proved from fmt's source: count such statements apart). THE CARD IS WHAT COUNTS. Prove the row's statement (the work); the ties are given (YtapjdlcdgnochaaGreatDoorTie.lean); close each card by the builder's one call (the guide's Derived/Test/ToyasCard.lean, 'card_holds'). Laid BY PROGRAM, IN A SANDBOX (cutbox-door.mjs). By AI agents, Wed Nov 11 2026. No macro, syntax, notation, axiom, sorry.
-/
import Derived.Test.YtapjdlcdgnochaaGreatDoorRows
import GoSem.ClaimSeven
namespace Go.Proofs.YtapjdlcdgnochaaGreatDoor
namespace Rows

/-- THE TIED CARD OF 'midrangetop.TopTextsRefused'. -/
def topTextsRefusedCard : Claim7 := { stood := { row := topTextsRefusedRow, standIns := [], harness := (true, "f410359e4579012227f49b7ec4e2bf189ec5cbd9a374f7787670073a02392029"), looks := true }, kinds := [], alts := [], laidByText := true, laidKinds := [.data, .data, .data, .data, .sentinel, .sentinel, .data, .widerDeep, .widerDeep, .pinned], laidTests := true, laidLooks := .later }
def TopTextsRefusedCardSaid : Prop := Claim7.holds Tryz.pinned (.plain (OpenSpec.ofChange topTextsRefusedSpec)) topTextsRefusedCard

/-- THE SECOND FORM's CARD OF 'midrangetop.TopTextsRefused'. -/
def topTextsRefusedUptoCard : Claim7 := { stood := { row := topTextsRefusedUptoRow, standIns := [], harness := (true, "f410359e4579012227f49b7ec4e2bf189ec5cbd9a374f7787670073a02392029"), looks := true }, kinds := [], alts := [], laidByText := true, laidKinds := [.data, .data, .data, .data, .sentinel, .sentinel, .data, .widerDeep, .widerDeep, .pinned], laidTests := true, laidLooks := .later }
def TopTextsRefusedUptoCardSaid : Prop := Claim7.holds Tryz.pinned (.plain (OpenSpec.upto topTextsRefusedSpec)) topTextsRefusedUptoCard
end Rows
end Go.Proofs.YtapjdlcdgnochaaGreatDoor
