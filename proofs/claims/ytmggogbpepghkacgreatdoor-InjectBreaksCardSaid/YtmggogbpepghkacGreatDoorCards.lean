/-
  DERIVED. GIVEN WITH THE SEED: THE CARDS: each row of YtmggogbpepghkacGreatDoorRows.lean that lists a variable, with what it lists TIED to the program's text (the seventh form; the later family's looks); each row that meets fmt, with fmt's text TOLD by the authors' own Lean function (tested against real Go, not proved from fmt's source: count such statements apart). THE CARD IS WHAT COUNTS. Prove the row's statement (the work); the ties are given (YtmggogbpepghkacGreatDoorTie.lean); close each card by the builder's one call (the guide's Derived/Test/ToyasCard.lean, 'card_holds'). Laid BY PROGRAM, IN A SANDBOX (cutbox-door.mjs). By AI agents, Wed Nov 11 2026. No macro, syntax, notation, axiom, sorry.
-/
import Derived.Test.YtmggogbpepghkacGreatDoorRows
import GoSem.ClaimSeven
namespace Go.Proofs.YtmggogbpepghkacGreatDoor
namespace Rows

/-- THE TIED CARD OF 'sticklerlaw46.InjectBreaks'. -/
def injectBreaksCard : Claim7 := { stood := { row := injectBreaksRow, standIns := [], harness := (true, "7c19e3f172d7b6ee3010e3ac83d7b51b4c573d7cfd5e92a301862af844139996"), looks := false }, kinds := [], alts := [], laidByText := true, laidKinds := [.data, .data, .data, .pinned], laidTests := true, laidLooks := .later }
def InjectBreaksCardSaid : Prop := Claim7.holds Tryz.pinned (.plain (OpenSpec.ofChange injectBreaksSpec)) injectBreaksCard

/-- THE SECOND FORM's CARD OF 'sticklerlaw46.InjectBreaks'. -/
def injectBreaksUptoCard : Claim7 := { stood := { row := injectBreaksUptoRow, standIns := [], harness := (true, "7c19e3f172d7b6ee3010e3ac83d7b51b4c573d7cfd5e92a301862af844139996"), looks := false }, kinds := [], alts := [], laidByText := true, laidKinds := [.data, .data, .data, .pinned], laidTests := true, laidLooks := .later }
def InjectBreaksUptoCardSaid : Prop := Claim7.holds Tryz.pinned (.plain (OpenSpec.upto injectBreaksSpec)) injectBreaksUptoCard
end Rows
end Go.Proofs.YtmggogbpepghkacGreatDoor
