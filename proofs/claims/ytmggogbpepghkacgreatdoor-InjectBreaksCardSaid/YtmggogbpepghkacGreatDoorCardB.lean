/- InjectBreaks holds, card and all: whatever the kind, the stream and the side are, part 2. -/
import Derived.Test.YtmggogbpepghkacGreatDoorWalk
import Derived.Test.YtmggogbpepghkacGreatDoorCards
import Derived.Test.YtmggogbpepghkacGreatDoorTie
import Derived.WalkKit
import Derived.ProofKit
import Derived.OpenShut
import Derived.Deep.DeepHandedRow
import Derived.Lib.LaidTab
import Derived.Test.YtmggogbpepghkacGreatDoorCardA

namespace Go.Proofs.YtmggogbpepghkacGreatDoor
open Go.ChangeShapes Go.WideShapes Go.ChangeAt Go.RowKit Go.Sx
/-- The tables' cells, as the row's list has them. -/
noncomputable def cellsFor (t : TypeId) (d : DataW Unit) : Array Value := ((dataCells Tryz.prog 10 t d).getD []).toArray
noncomputable def lay (h : Array Obj) (g : Nat) (cs : Array Value) : Array Obj := h.modify g fun
  | .cells _ t frozen => .cells cs t frozen
  | o => o
/-- A world for the witness: the settled one, with the tables as their initialisers lay them. -/
noncomputable def laidWorld (os : Os) : World :=
  { World.holding Tryz.prog os ⟨#[], #[], []⟩ with heap := lay (lay (lay (lay (World.holding Tryz.prog os ⟨#[], #[], []⟩).heap 0 (cellsFor 73 Rows.laid_stickler_inject_rules)) 1 (cellsFor 257 Rows.laid_stickler_repr_forms)) 3 (cellsFor 355 Rows.laid_unicode_utf8_first)) 4 (cellsFor 358 Rows.laid_unicode_utf8_acceptRanges) }
def wargs : Array Value := #[.int .i64 0, .int .i64 0, .int .i64 0]
theorem laid_met (os : Os) : laidMet Tryz.prog Rows.injectBreaksRow.laid ((laidWorld os).forCall (fun _ _ => 0) ⟨#[], wargs, []⟩).memory :=
  laidMet_of_run' 8 (by kernel_rfl) (by kernel_rfl)
theorem reads (os : Os) {H : Type} (enc : TypeId × Value → H) : ∃ places, DataW.whole enc Tryz.prog ((laidWorld os).forCall (fun _ _ => 0) ⟨#[], wargs, []⟩).memory Tryz.f3.params.toList Rows.injectBreaksSpec.vars false wargs.toList 8 = some ([.lit (.int .i64 0), .lit (.int .i64 0), .lit (.int .i64 0)], [], places) :=
  ⟨[], by kernel_rfl⟩

end Go.Proofs.YtmggogbpepghkacGreatDoor
