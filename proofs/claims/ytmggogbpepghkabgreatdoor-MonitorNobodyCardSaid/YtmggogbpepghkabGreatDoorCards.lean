/-
  DERIVED. GIVEN WITH THE SEED: THE CARDS: each row of YtmggogbpepghkabGreatDoorRows.lean that lists a variable, with what it lists TIED to the program's text (the seventh form; the later family's looks); each row that meets fmt, with fmt's text TOLD by the authors' own Lean function (tested against real Go, not proved from fmt's source: count such statements apart). THE CARD IS WHAT COUNTS. Prove the row's statement (the work); the ties are given (YtmggogbpepghkabGreatDoorTie.lean); close each card by the builder's one call (the guide's Derived/Test/ToyasCard.lean, 'card_holds'). Laid BY PROGRAM, IN A SANDBOX (cutbox-door.mjs). By AI agents, Wed Nov 11 2026. No macro, syntax, notation, axiom, sorry.
-/
import Derived.Test.YtmggogbpepghkabGreatDoorRows
import GoSem.ClaimSeven
namespace Go.Proofs.YtmggogbpepghkabGreatDoor
namespace Rows

/-- THE TIED CARD OF 'sticklerlaw40.MonitorNobody'. -/
def monitorNobodyCard : Claim7 := { stood := { row := monitorNobodyRow, standIns := [], harness := (true, "6278dd893a2a2e11e4514bff89b855116cc3907e72dc76409b06f69426fd4874"), looks := false }, kinds := [], alts := [], laidByText := true, laidKinds := [.data, .data, .pinned], laidTests := true, laidLooks := .later }
def MonitorNobodyCardSaid : Prop := Claim7.holds Tryz.pinned (.plain (OpenSpec.ofChange monitorNobodySpec)) monitorNobodyCard

/-- THE SECOND FORM's CARD OF 'sticklerlaw40.MonitorNobody'. -/
def monitorNobodyUptoCard : Claim7 := { stood := { row := monitorNobodyUptoRow, standIns := [], harness := (true, "6278dd893a2a2e11e4514bff89b855116cc3907e72dc76409b06f69426fd4874"), looks := false }, kinds := [], alts := [], laidByText := true, laidKinds := [.data, .data, .pinned], laidTests := true, laidLooks := .later }
def MonitorNobodyUptoCardSaid : Prop := Claim7.holds Tryz.pinned (.plain (OpenSpec.upto monitorNobodySpec)) monitorNobodyUptoCard
end Rows
end Go.Proofs.YtmggogbpepghkabGreatDoor
