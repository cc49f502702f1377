/-
  DERIVED. GIVEN WITH THE SEED: THE CARDS: each row of YtmggogbpepghkaaGreatDoorRows.lean that lists a variable, with what it lists TIED to the program's text (the seventh form; the later family's looks); each row that meets fmt, with fmt's text TOLD by the authors' own Lean function (tested against real Go, not proved from fmt's source: count such statements apart). THE CARD IS WHAT COUNTS. Prove the row's statement (the work); the ties are given (YtmggogbpepghkaaGreatDoorTie.lean); close each card by the builder's one call (the guide's Derived/Test/ToyasCard.lean, 'card_holds'). Laid BY PROGRAM, IN A SANDBOX (cutbox-door.mjs). By AI agents, Wed Nov 11 2026. No macro, syntax, notation, axiom, sorry.
-/
import Derived.Test.YtmggogbpepghkaaGreatDoorRows
import GoSem.ClaimSeven
namespace Go.Proofs.YtmggogbpepghkaaGreatDoor
namespace Rows

/-- THE TIED CARD OF 'sticklerlaw46.InjectFrames'. -/
def injectFramesCard : Claim7 := { stood := { row := injectFramesRow, standIns := [], harness := (true, "34fb6a080ffaf54f19eb3974f939a418611d13685c0ffcd1e95f01b237e616ee"), looks := false }, kinds := [], alts := [], laidByText := true, laidKinds := [.data, .data, .data, .pinned], laidTests := true, laidLooks := .later }
def InjectFramesCardSaid : Prop := Claim7.holds Tryz.pinned (.plain (OpenSpec.ofChange injectFramesSpec)) injectFramesCard

/-- THE SECOND FORM's CARD OF 'sticklerlaw46.InjectFrames'. -/
def injectFramesUptoCard : Claim7 := { stood := { row := injectFramesUptoRow, standIns := [], harness := (true, "34fb6a080ffaf54f19eb3974f939a418611d13685c0ffcd1e95f01b237e616ee"), looks := false }, kinds := [], alts := [], laidByText := true, laidKinds := [.data, .data, .data, .pinned], laidTests := true, laidLooks := .later }
def InjectFramesUptoCardSaid : Prop := Claim7.holds Tryz.pinned (.plain (OpenSpec.upto injectFramesSpec)) injectFramesUptoCard
end Rows
end Go.Proofs.YtmggogbpepghkaaGreatDoor
